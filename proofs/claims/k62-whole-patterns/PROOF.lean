import PyProof.Rows.All
import Wide.All
import OpenK.AllK
import Wide.FinOn
import HandS.ForMost
import HandS.ForExc
import HandS.Evl
import HandS.IsInst
import HandS.Deep
import HandS.TupAny
import HandS.Zip
import HandS.Style
import HandS.Walk
import HandS.TupSets
import KE.SortData
import KE.DataMinMax
import KE.DataCmp
import KE.KDictKeyed
import KE.DataAny
import KE.DataIsa
import HandS.Conv
import HandS.WideBits
import KE.GoesEnum
import KE.KDictDisplayH
import KE.KDictSum
import HandS.Ends
import KE.SortLaws
import PyProof.TupleOfSeq
import PySem.Challenge.RW_sumroads_k62_whole_patterns_put_on_stack
set_option Elab.async false
set_option linter.all false
set_option maxRecDepth 100000
set_option maxHeartbeats 4000000
/-! data over the abstract heap, and what evaluates to data -/
namespace K62
open PySem PySem.Spec PyProof.Rows L2

/-! ### data that stand on under growth -/
section
variable {K : PySem.W.Frag} {H H' : Hp}
theorem same_t (e : Same H H') {a : Addr} {xs : List V} (h : SqT K H a xs) : SqT K H' a xs := by
  rcases h with (h | ⟨o, h⟩) | h
  · exact .inl (.inl (e _ _ h))
  · exact .inl (.inr ⟨o, e _ _ h⟩)
  · exact .inr h
mutual
theorem dp_mono (e : Same H H') : ∀ (d : PyData) (v : V), Dp K H v d → Dp K H' v d
  | .none, _, h => by cases h; exact .non
  | .bool _, _, h => by cases h; exact .bl _
  | .int _, _, h => by cases h; exact .int _
  | .str _, _, h => by cases h; exact .str _
  | .list ds, _, h => by
    cases h with
    | lst hs ha => exact .lst (e.seq hs) (dpAll_mono e ds _ ha)
  | .tuple ds, _, h => by
    cases h with
    | tup hs ha => exact .tup (same_t e hs) (dpAll_mono e ds _ ha)
  | .dict _, _, h => by cases h
theorem dpAll_mono (e : Same H H') : ∀ (ds : List PyData) (vs : List V), DpAll K H vs ds → DpAll K H' vs ds
  | [], _, h => by cases h; exact .nil
  | d :: ds, _, h => by
    cases h with
    | cons h1 h2 => exact .cons (dp_mono e d _ h1) (dpAll_mono e ds _ h2)
end
theorem dpAll_len : ∀ {vs : List V} {ds : List PyData}, DpAll K H vs ds → vs.length = ds.length
  | _, _, .nil => rfl
  | _, _, .cons _ t => congrArg (· + 1) (dpAll_len t)
theorem dpAll_get : ∀ {vs : List V} {ds : List PyData} {i : Nat} {d : PyData}, DpAll K H vs ds → ds[i]? = some d → ∃ v, vs[i]? = some v ∧ Dp K H v d
  | _, _, _, _, .nil, h => by simp at h
  | _, _, 0, d, .cons h1 _, h => by
    have e : _ = d := Option.some.inj h
    subst e
    exact ⟨_, rfl, h1⟩
  | _, _, i + 1, d, .cons _ t, h => dpAll_get (i := i) t (by simpa using h)
theorem dpAll_get' : ∀ {vs : List V} {ds : List PyData} {i : Nat} {v : V}, DpAll K H vs ds → vs[i]? = some v → ∃ d, ds[i]? = some d ∧ Dp K H v d
  | _, _, _, _, .nil, h => by simp at h
  | _, _, 0, v, .cons h1 _, h => by
    have e : _ = v := Option.some.inj h
    subst e
    exact ⟨_, rfl, h1⟩
  | _, _, i + 1, v, .cons _ t, h => dpAll_get' (i := i) t (by simpa using h)
theorem dpAll_app : ∀ {vs us : List V} {ds es : List PyData}, DpAll K H vs ds → DpAll K H us es → DpAll K H (vs ++ us) (ds ++ es)
  | _, _, _, _, .nil, h => h
  | _, _, _, _, .cons h1 t, h => .cons h1 (dpAll_app t h)
theorem dpAll_take : ∀ {vs : List V} {ds : List PyData} (n : Nat), DpAll K H vs ds → DpAll K H (vs.take n) (ds.take n)
  | _, _, 0, _ => .nil
  | _, _, _ + 1, .nil => .nil
  | _, _, n + 1, .cons h t => .cons h (dpAll_take n t)
theorem dpAll_drop : ∀ {vs : List V} {ds : List PyData} (n : Nat), DpAll K H vs ds → DpAll K H (vs.drop n) (ds.drop n)
  | _, _, 0, h => h
  | _, _, _ + 1, .nil => .nil
  | _, _, n + 1, .cons _ t => dpAll_drop n t
theorem dpAll_one {v : V} {d : PyData} (h : Dp K H v d) : DpAll K H [v] [d] := .cons h .nil
theorem dpAll_ints : ∀ (ns : List Int), DpAll K H (ns.map V.int) (ns.map PyData.int)
  | [] => .nil
  | n :: ns => .cons (.int n) (dpAll_ints ns)
/-- ints are themselves -/
theorem dpAll_int_eq : ∀ {vs : List V} {ns : List Int}, DpAll K H vs (ns.map PyData.int) → vs = ns.map V.int
  | _, [], h => by cases h; rfl
  | _, n :: ns, h => by
    cases h with
    | cons h1 h2 => cases h1; rw [dpAll_int_eq h2]; rfl
theorem dpAll_bool_eq : ∀ {vs : List V} {ns : List Bool}, DpAll K H vs (ns.map PyData.bool) → vs = ns.map V.bl
  | _, [], h => by cases h; rfl
  | _, n :: ns, h => by
    cases h with
    | cons h1 h2 => cases h1; rw [dpAll_bool_eq h2]; rfl
theorem same_new {p : Addr} {o : HO} (h : H p = none) : Same H (upd H p o) := fun b u e => by
  rw [upd_ne (ne_of_none e h)]
  exact e
end

/-! ### the pot: two ints, hidden -/
def PotI (a b : Int) : Prop := 0 ≤ a ∧ 0 ≤ b ∧ b < 4294967296
def potF (p : Addr) : Heap → Prop := fun h => ∃ (a b : Int) (t u : Tok) (n : Nat), h.get? p = some { cls := .type "list", data := .seq #[.int a t, .int b u] n } ∧ PotI a b
def potO (p : Addr) : HO := .ext (potF p)

/-! ### a dict whose keys are nested tuples -/
abbrev NkT := NestedKey × Addr × V
def relN (p : NkT) (q : NestedKey × Addr × Value) : Prop := p.1 = q.1 ∧ p.2.1 = q.2.1 ∧ RelV p.2.2 q.2.2
def dicF (P : Program) (w : World) (a : Addr) (xs : List NkT) : Heap → Prop := fun h => xs.length ≤ sizeLine ∧ (a == sysModules) = false ∧ ∃ ys : List (NestedKey × Addr × Value), Paired relN xs ys ∧
  ∃ o es ep, h.get? a = some o ∧ o.ExactDict ∧ o.data = .dict es ep ∧ es.toList = ys.map (entryOfKey (nestedKind P w)) ∧ (ys.map (·.1)).Nodup
def dicO (P : Program) (w : World) (a : Addr) (xs : List NkT) : HO := .ext (dicF P w a xs)
/-- an entry stands for a pair of data -/
def entD (K : PySem.W.Frag) (H : Hp) (x : NkT) (kv : PyData × PyData) : Prop := x.1.data = kv.1 ∧ x.1.depth ≤ 2 ∧ Dp K H (.ref x.2.1) kv.1 ∧ Dp K H x.2.2 kv.2
theorem ent_mono {K : PySem.W.Frag} {H H' : Hp} (e : Same H H') : ∀ {xs : List NkT} {kvs : List (PyData × PyData)}, Paired (entD K H) xs kvs → Paired (entD K H') xs kvs
  | _, _, .nil => .nil
  | _, _, .cons h t => .cons ⟨h.1, h.2.1, dp_mono e _ _ h.2.2.1, dp_mono e _ _ h.2.2.2⟩ (ent_mono e t)

/-! ### what the layer speaks of -/
structure Pw where
  P : Program
  w : World
  K : PySem.W.Frag
abbrev pwOf (X : Cx) : Pw := ⟨X.prog, X.w, X.K⟩
inductive Dd where
  | p (d : PyData)
  | pot
  | dic (kvs : List (PyData × PyData))
def Rep (κ : Pw) (B : Hp) (v : V) : Dd → Prop
  | .p d => Dp κ.K B v d
  | .pot => ∃ a, v = .ref a ∧ B a = some (potO a)
  | .dic kvs => ∃ a xs, v = .ref a ∧ B a = some (dicO κ.P κ.w a xs) ∧ Paired (entD κ.K B) xs kvs
theorem rep_mono {κ : Pw} {B B' : Hp} {v : V} (e : Same B B') : ∀ {d : Dd}, Rep κ B v d → Rep κ B' v d
  | .p d, h => dp_mono e d v h
  | .pot, ⟨a, h1, h2⟩ => ⟨a, h1, e _ _ h2⟩
  | .dic _, ⟨a, xs, h1, h2, h3⟩ => ⟨a, xs, h1, e _ _ h2, ent_mono e h3⟩
/-- what a slot holds: nothing known, data, a list of this def's own, a dict of its own -/
inductive Sl where
  | any
  | d (x : Dd)
  | own (xs : List PyData)
  | owd (kvs : List (PyData × PyData))
def SlOk (κ : Pw) (H0 B H : Hp) (o : Option V) : Sl → Prop
  | .any => True
  | .d x => ∃ v, o = some v ∧ Rep κ B v x
  | .own xs => ∃ l vs, o = some (.ref l) ∧ H0 l = none ∧ B l = none ∧ H l = some (.lst vs) ∧ DpAll κ.K B vs xs
  | .owd kvs => ∃ l xs, o = some (.ref l) ∧ H0 l = none ∧ B l = none ∧ H l = some (dicO κ.P κ.w l xs) ∧ Paired (entD κ.K B) xs kvs
def Sl.isOwn : Sl → Bool
  | .own _ => true
  | .owd _ => true
  | _ => false
structure Env (κ : Pw) (H0 B H : Hp) (σ : L2.St) (Γ : List Sl) : Prop where
  sub : Same B H
  h0 : Same H0 H
  len : σ.length = Γ.length
  ok : ∀ (i : Nat) s o, Γ[i]? = some s → σ[i]? = some o → SlOk κ H0 B H o s
  sep : ∀ (i j : Nat) s t l, i ≠ j → Γ[i]? = some s → Γ[j]? = some t → s.isOwn = true → t.isOwn = true → σ[i]? = some (some (.ref l)) → σ[j]? = some (some (.ref l)) → False
/-- the heap has grown: B, what is known for good; H, all that is tracked -/
structure Ext (B H B' H' : Hp) : Prop where
  h : Same H H'
  b : Same B B'
  s : Same B' H'
  o : ∀ a, B a = none → H a ≠ none → B' a = none
theorem Ext.refl {B H : Hp} (e : Same B H) : Ext B H B H := ⟨Same.refl _, Same.refl _, e, fun _ h _ => h⟩
theorem Ext.trans {B H B1 H1 B2 H2 : Hp} (a : Ext B H B1 H1) (b : Ext B1 H1 B2 H2) : Ext B H B2 H2 :=
  ⟨a.h.trans b.h, a.b.trans b.b, b.s, fun x h1 h2 => b.o x (a.o x h1 h2) (fun h3 => by
    cases q : H x with
    | none => exact h2 q
    | some u => rw [a.h x u q] at h3; cases h3)⟩
/-- a new object, known for good -/
theorem Ext.new {B H : Hp} {p : Addr} {o : HO} (e : Same B H) (hp : H p = none) : Ext B H (upd B p o) (upd H p o) where
  h := same_new hp
  b := same_new (e.free hp)
  s := fun a u h => by
    by_cases ha : a = p
    · subst ha; rw [upd_same] at h ⊢; exact h
    · rw [upd_ne ha] at h ⊢; exact e a u h
  o := fun a h1 h2 => by
    have ha : a ≠ p := fun z => h2 (by rw [z]; exact hp)
    rw [upd_ne ha]; exact h1
/-- a new object, not known for good -/
theorem Ext.hid {B H : Hp} {p : Addr} {o : HO} (e : Same B H) (hp : H p = none) : Ext B H B (upd H p o) where
  h := same_new hp
  b := Same.refl _
  s := e.trans (same_new hp)
  o := fun _ h1 _ => h1
/-- a hidden object becomes known -/
theorem Ext.show_ {B H B' H' : Hp} {p : Addr} {o : HO} (e : Ext B H B' H') (h0 : H p = none) (h1 : B' p = none) (h2 : H' p = some o) : Ext B H (upd B' p o) H' where
  h := e.h
  b := e.b.trans (same_new h1)
  s := fun a u h => by
    by_cases ha : a = p
    · subst ha; rw [upd_same] at h; rw [h2]; exact h
    · rw [upd_ne ha] at h; exact e.s a u h
  o := fun a q1 q2 => by
    have ha : a ≠ p := fun z => q2 (by rw [z]; exact h0)
    rw [upd_ne ha]; exact e.o a q1 q2
section
variable {κ : Pw} {H0 B H B' H' : Hp} {σ : L2.St} {Γ : List Sl}
theorem SlOk.ext (e : Ext B H B' H') {o : Option V} : ∀ {s : Sl}, SlOk κ H0 B H o s → SlOk κ H0 B' H' o s
  | .any, _ => trivial
  | .d _, ⟨v, h1, h2⟩ => ⟨v, h1, rep_mono e.b h2⟩
  | .own _, ⟨l, vs, h1, h2, h3, h4, h5⟩ => ⟨l, vs, h1, h2, e.o l h3 (by rw [h4]; simp), e.h _ _ h4, dpAll_mono e.b _ _ h5⟩
  | .owd _, ⟨l, xs, h1, h2, h3, h4, h5⟩ => ⟨l, xs, h1, h2, e.o l h3 (by rw [h4]; simp), e.h _ _ h4, ent_mono e.b h5⟩
theorem Env.ext (E : Env κ H0 B H σ Γ) (e : Ext B H B' H') : Env κ H0 B' H' σ Γ :=
  ⟨e.s, E.h0.trans e.h, E.len, fun i s o h1 h2 => (E.ok i s o h1 h2).ext e, E.sep⟩
theorem Env.d (E : Env κ H0 B H σ Γ) {i : Nat} {x : Dd} (h : Γ[i]? = some (.d x)) : ∃ v, σ[i]? = some (some v) ∧ Rep κ B v x := by
  have hi : i < σ.length := by
    rw [E.len]
    exact (List.getElem?_eq_some_iff.mp h).1
  obtain ⟨v, e, r⟩ := E.ok i _ σ[i] h (List.getElem?_eq_getElem hi)
  exact ⟨v, by rw [List.getElem?_eq_getElem hi, e], r⟩
theorem Env.own (E : Env κ H0 B H σ Γ) {i : Nat} {xs : List PyData} (h : Γ[i]? = some (.own xs)) : ∃ l vs, σ[i]? = some (some (.ref l)) ∧ H0 l = none ∧ B l = none ∧ H l = some (.lst vs) ∧ DpAll κ.K B vs xs := by
  have hi : i < σ.length := by
    rw [E.len]
    exact (List.getElem?_eq_some_iff.mp h).1
  obtain ⟨l, vs, e, r⟩ := E.ok i _ σ[i] h (List.getElem?_eq_getElem hi)
  exact ⟨l, vs, by rw [List.getElem?_eq_getElem hi, e], r⟩
theorem Env.owd (E : Env κ H0 B H σ Γ) {i : Nat} {xs : List (PyData × PyData)} (h : Γ[i]? = some (.owd xs)) : ∃ l vs, σ[i]? = some (some (.ref l)) ∧ H0 l = none ∧ B l = none ∧ H l = some (dicO κ.P κ.w l vs) ∧ Paired (entD κ.K B) vs xs := by
  have hi : i < σ.length := by
    rw [E.len]
    exact (List.getElem?_eq_some_iff.mp h).1
  obtain ⟨l, vs, e, r⟩ := E.ok i _ σ[i] h (List.getElem?_eq_getElem hi)
  exact ⟨l, vs, by rw [List.getElem?_eq_getElem hi, e], r⟩
/-- a slot stored -/
theorem Env.set (E : Env κ H0 B H σ Γ) {i : Nat} {v : V} {s : Sl} (h : SlOk κ H0 B H (some v) s) (hs : s.isOwn = true → ∀ j l, j ≠ i → v = .ref l → σ[j]? = some (some (.ref l)) → ∀ t, Γ[j]? = some t → t.isOwn = false) :
    Env κ H0 B H (σ.set i (some v)) (Γ.set i s) := by
  refine ⟨E.sub, E.h0, by rw [List.length_set, List.length_set]; exact E.len, fun j t o h1 h2 => ?_, fun j k t u l hjk h1 h2 h3 h4 h5 h6 => ?_⟩
  · by_cases hj : j = i
    · subst hj
      have hl : j < Γ.length := by
        have := (List.getElem?_eq_some_iff.mp h1).1
        rwa [List.length_set] at this
      rw [List.getElem?_set_self hl] at h1
      rw [List.getElem?_set_self (by rw [E.len]; exact hl)] at h2
      cases h1; cases h2
      exact h
    · rw [List.getElem?_set_ne (Ne.symm hj)] at h1 h2
      exact E.ok j t o h1 h2
  · by_cases hj : j = i
    · subst hj
      have hl : j < Γ.length := by
        have := (List.getElem?_eq_some_iff.mp h1).1
        rwa [List.length_set] at this
      rw [List.getElem?_set_self hl] at h1
      rw [List.getElem?_set_self (by rw [E.len]; exact hl)] at h5
      rw [List.getElem?_set_ne hjk] at h2 h6
      cases h1
      have := hs h3 k l (Ne.symm hjk) (Option.some.inj (Option.some.inj h5)) h6 u h2
      rw [this] at h4; cases h4
    · by_cases hk : k = i
      · subst hk
        have hl : k < Γ.length := by
          have := (List.getElem?_eq_some_iff.mp h2).1
          rwa [List.length_set] at this
        rw [List.getElem?_set_self hl] at h2
        rw [List.getElem?_set_self (by rw [E.len]; exact hl)] at h6
        rw [List.getElem?_set_ne (Ne.symm hj)] at h1 h5
        cases h2
        have := hs h4 j l hj (Option.some.inj (Option.some.inj h6)) h5 t h1
        rw [this] at h3; cases h3
      · rw [List.getElem?_set_ne (Ne.symm hj)] at h1 h5
        rw [List.getElem?_set_ne (Ne.symm hk)] at h2 h6
        exact E.sep j k t u l hjk h1 h2 h3 h4 h5 h6
theorem Env.setD (E : Env κ H0 B H σ Γ) {i : Nat} {v : V} {x : Dd} (h : Rep κ B v x) : Env κ H0 B H (σ.set i (some v)) (Γ.set i (.d x)) :=
  E.set ⟨v, rfl, h⟩ fun z => by cases z
/-- an own list changed -/
theorem Env.mut (E : Env κ H0 B H σ Γ) {i : Nat} {xs ys : List PyData} {l : Addr} {us : List V} (h : Γ[i]? = some (.own xs)) (hl : σ[i]? = some (some (.ref l))) (h1 : H0 l = none) (h2 : B l = none) (hd : DpAll κ.K B us ys) :
    Env κ H0 B (upd H l (.lst us)) σ (Γ.set i (.own ys)) := by
  have hi : i < Γ.length := (List.getElem?_eq_some_iff.mp h).1
  have key : ∀ j s, j ≠ i → Γ[j]? = some s → s.isOwn = true → σ[j]? ≠ some (some (.ref l)) := fun j s hj hs ho hz => E.sep j i s _ l hj hs h ho rfl hz hl
  refine ⟨fun a u ha => by rw [upd_ne (ne_of_none ha h2)]; exact E.sub a u ha, fun a u ha => by rw [upd_ne (ne_of_none ha h1)]; exact E.h0 a u ha, by rw [List.length_set]; exact E.len, fun j t o q1 q2 => ?_, fun j k t u l' hjk q1 q2 q3 q4 q5 q6 => ?_⟩
  · by_cases hj : j = i
    · subst hj
      rw [List.getElem?_set_self hi] at q1
      cases q1
      rw [hl] at q2; cases q2
      exact ⟨l, us, rfl, h1, h2, upd_same, hd⟩
    · rw [List.getElem?_set_ne (Ne.symm hj)] at q1
      have z := E.ok j t o q1 q2
      cases t with
      | any => trivial
      | d x => exact z
      | own zs =>
        obtain ⟨l', vs, e1, e2, e3, e4, e5⟩ := z
        have : l' ≠ l := fun e => key j _ hj q1 rfl (by rw [q2, e1, e])
        exact ⟨l', vs, e1, e2, e3, by rw [upd_ne this]; exact e4, e5⟩
      | owd zs =>
        obtain ⟨l', vs, e1, e2, e3, e4, e5⟩ := z
        have : l' ≠ l := fun e => key j _ hj q1 rfl (by rw [q2, e1, e])
        exact ⟨l', vs, e1, e2, e3, by rw [upd_ne this]; exact e4, e5⟩
  · have conv : ∀ {j : Nat} {s : Sl}, (Γ.set i (.own ys))[j]? = some s → s.isOwn = true → ∃ s' : Sl, Γ[j]? = some s' ∧ s'.isOwn = true := fun {j s} q r => by
      by_cases hj : j = i
      · subst hj; exact ⟨_, h, rfl⟩
      · rw [List.getElem?_set_ne (Ne.symm hj)] at q; exact ⟨s, q, r⟩
    obtain ⟨t', a1, a2⟩ := conv q1 q3
    obtain ⟨u', b1, b2⟩ := conv q2 q4
    exact E.sep j k t' u' l' hjk a1 b1 a2 b2 q5 q6
theorem Env.mutD (E : Env κ H0 B H σ Γ) {i : Nat} {xs ys : List (PyData × PyData)} {l : Addr} {us : List NkT} (h : Γ[i]? = some (.owd xs)) (hl : σ[i]? = some (some (.ref l))) (h1 : H0 l = none) (h2 : B l = none) (hd : Paired (entD κ.K B) us ys) :
    Env κ H0 B (upd H l (dicO κ.P κ.w l us)) σ (Γ.set i (.owd ys)) := by
  have hi : i < Γ.length := (List.getElem?_eq_some_iff.mp h).1
  have key : ∀ j s, j ≠ i → Γ[j]? = some s → s.isOwn = true → σ[j]? ≠ some (some (.ref l)) := fun j s hj hs ho hz => E.sep j i s _ l hj hs h ho rfl hz hl
  refine ⟨fun a u ha => by rw [upd_ne (ne_of_none ha h2)]; exact E.sub a u ha, fun a u ha => by rw [upd_ne (ne_of_none ha h1)]; exact E.h0 a u ha, by rw [List.length_set]; exact E.len, fun j t o q1 q2 => ?_, fun j k t u l' hjk q1 q2 q3 q4 q5 q6 => ?_⟩
  · by_cases hj : j = i
    · subst hj
      rw [List.getElem?_set_self hi] at q1
      cases q1
      rw [hl] at q2; cases q2
      exact ⟨l, us, rfl, h1, h2, upd_same, hd⟩
    · rw [List.getElem?_set_ne (Ne.symm hj)] at q1
      have z := E.ok j t o q1 q2
      cases t with
      | any => trivial
      | d x => exact z
      | own zs =>
        obtain ⟨l', vs, e1, e2, e3, e4, e5⟩ := z
        have : l' ≠ l := fun e => key j _ hj q1 rfl (by rw [q2, e1, e])
        exact ⟨l', vs, e1, e2, e3, by rw [upd_ne this]; exact e4, e5⟩
      | owd zs =>
        obtain ⟨l', vs, e1, e2, e3, e4, e5⟩ := z
        have : l' ≠ l := fun e => key j _ hj q1 rfl (by rw [q2, e1, e])
        exact ⟨l', vs, e1, e2, e3, by rw [upd_ne this]; exact e4, e5⟩
  · have conv : ∀ {j : Nat} {s : Sl}, (Γ.set i (.owd ys))[j]? = some s → s.isOwn = true → ∃ s' : Sl, Γ[j]? = some s' ∧ s'.isOwn = true := fun {j s} q r => by
      by_cases hj : j = i
      · subst hj; exact ⟨_, h, rfl⟩
      · rw [List.getElem?_set_ne (Ne.symm hj)] at q; exact ⟨s, q, r⟩
    obtain ⟨t', a1, a2⟩ := conv q1 q3
    obtain ⟨u', b1, b2⟩ := conv q2 q4
    exact E.sep j k t' u' l' hjk a1 b1 a2 b2 q5 q6
theorem Ext.mut {B0 H0 B H : Hp} {l : Addr} {o : HO} (x : Ext B0 H0 B H) (h1 : H0 l = none) (h2 : B l = none) : Ext B0 H0 B (upd H l o) :=
  ⟨fun a u ha => by rw [upd_ne (ne_of_none ha h1)]; exact x.h a u ha, x.b, fun a u ha => by rw [upd_ne (ne_of_none ha h2)]; exact x.s a u ha, x.o⟩
/-- a slot forgotten -/
theorem Env.wipe1 (E : Env κ H0 B H σ Γ) (i : Nat) : Env κ H0 B H (σ.set i none) (Γ.set i .any) := by
  refine ⟨E.sub, E.h0, by rw [List.length_set, List.length_set]; exact E.len, fun j t o h1 h2 => ?_, fun j k t u l hjk h1 h2 h3 h4 h5 h6 => ?_⟩
  · by_cases hj : j = i
    · subst hj
      have hl : j < Γ.length := by
        have := (List.getElem?_eq_some_iff.mp h1).1
        rwa [List.length_set] at this
      rw [List.getElem?_set_self hl] at h1
      cases h1
      trivial
    · rw [List.getElem?_set_ne (Ne.symm hj)] at h1 h2
      exact E.ok j t o h1 h2
  · by_cases hj : j = i
    · subst hj
      have hl : j < Γ.length := by
        have := (List.getElem?_eq_some_iff.mp h1).1
        rwa [List.length_set] at this
      rw [List.getElem?_set_self hl] at h1
      cases h1; cases h3
    · by_cases hk : k = i
      · subst hk
        have hl : k < Γ.length := by
          have := (List.getElem?_eq_some_iff.mp h2).1
          rwa [List.length_set] at this
        rw [List.getElem?_set_self hl] at h2
        cases h2; cases h4
      · rw [List.getElem?_set_ne (Ne.symm hj)] at h1 h5
        rw [List.getElem?_set_ne (Ne.symm hk)] at h2 h6
        exact E.sep j k t u l hjk h1 h2 h3 h4 h5 h6
def wipeG (Γ : List Sl) : List Nat → List Sl
  | [] => Γ
  | v :: vs => (wipeG Γ vs).set v .any
theorem Env.wipe (E : Env κ H0 B H σ Γ) : ∀ vs : List Nat, Env κ H0 B H (L2.wipe σ vs) (wipeG Γ vs)
  | [] => E
  | v :: vs => (Env.wipe E vs).wipe1 v
end
end K62
/-! what evaluates to what: readings of one form -/
namespace K62
open PySem PySem.Spec PyProof.Rows L2

def Is {α : Type} (x : α) : α → Prop := fun y => y = x
abbrev IsP (d : PyData) : Dd → Prop := Is (Dd.p d)
abbrev IsI (i : Int) : Dd → Prop := Is (Dd.p (.int i))
abbrev IsB (b : Bool) : Dd → Prop := Is (Dd.p (.bool b))

def RepAll (κ : Pw) (B : Hp) : List V → List Dd → Prop := Paired (Rep κ B)
theorem repAll_mono {κ : Pw} {B B' : Hp} (e : Same B B') : ∀ {vs : List V} {ds : List Dd}, RepAll κ B vs ds → RepAll κ B' vs ds
  | _, _, .nil => .nil
  | _, _, .cons h t => .cons (rep_mono e h) (repAll_mono e t)

/-- data | a list to be read | a new list | a test | arguments -/
def tD (κ : Pw) (Γ : List Sl) (S : Dd → Prop) : TE := fun σ H Q => ∃ H0 B, Env κ H0 B H σ Γ ∧ ∀ v d B' H', Ext B H B' H' → S d → Rep κ B' v d → Q v H'
def tL (κ : Pw) (Γ : List Sl) (S : List PyData → Prop) : TE := fun σ H Q => ∃ H0 B, Env κ H0 B H σ Γ ∧ ∀ a vs ds B' H', Ext B H B' H' → S ds → SqL κ.K H' a vs → DpAll κ.K B' vs ds → Q (.ref a) H'
def tN (κ : Pw) (Γ : List Sl) (S : List PyData → Prop) : TE := fun σ H Q => ∃ H0 B, Env κ H0 B H σ Γ ∧ ∀ a vs ds B' H', Ext B H B' H' → S ds → H a = none → B' a = none → H' a = some (.lst vs) → DpAll κ.K B' vs ds → Q (.ref a) H'
def tT (κ : Pw) (Γ : List Sl) (S : Bool → Prop) : TT := fun σ H Q => ∃ H0 B, Env κ H0 B H σ Γ ∧ ∀ b B' H', Ext B H B' H' → S b → Q b H'
def tA (κ : Pw) (Γ : List Sl) (S : List Dd → Prop) : TA := fun σ H Q => ∃ H0 B, Env κ H0 B H σ Γ ∧ ∀ vs ds B' H', Ext B H B' H' → S ds → RepAll κ B' vs ds → Q vs H'

section
variable {X : Cx} {e a b c : Expr} {es : List Expr} {pos : Pos} {Γ : List Sl} {S Sa Sb : Dd → Prop} {κ : Pw}
theorem pe_mono {t t' : TE} (h : PE X e t) (m : ∀ σ H Q, t' σ H Q → t σ H Q) : PE X e t' := ⟨fun pins s σ H Q I q => h.run pins s σ H Q I (m σ H Q q)⟩
theorem pt_mono {t t' : TT} (h : PT X e t) (m : ∀ σ H Q, t' σ H Q → t σ H Q) : PT X e t' := ⟨fun pins s σ H Q I q => h.run pins s σ H Q I (m σ H Q q)⟩
theorem pw_mono {t t' : TT} (h : PW X e t) (m : ∀ σ H Q, t' σ H Q → t σ H Q) : PW X e t' := ⟨fun wh pins s σ H Q I q => h.run wh pins s σ H Q I (m σ H Q q)⟩
theorem pa_mono {t t' : TA} (h : PA X es t) (m : ∀ σ H Q, t' σ H Q → t σ H Q) : PA X es t' := ⟨fun p pins s σ H Q I q => h.run p pins s σ H Q I (m σ H Q q)⟩
/-- any of a family of readings -/
theorem pe_any {ι : Type} {C : ι → Prop} {t : ι → TE} (h : ∀ i, C i → PE X e (t i)) : PE X e (fun σ H Q => ∃ i, C i ∧ t i σ H Q) := ⟨fun pins s σ H Q I ⟨i, c, q⟩ => (h i c).run pins s σ H Q I q⟩

theorem pd_imp (h : PE X e (tD κ Γ Sa)) (m : ∀ d, Sa d → S d) : PE X e (tD κ Γ S) := pe_mono h fun _ _ _ ⟨H0, B, E, q⟩ => ⟨H0, B, E, fun v d B' H' e s r => q v d B' H' e (m d s) r⟩
theorem pd_eq {d d' : Dd} (h : PE X e (tD κ Γ (Is d))) (m : d = d') : PE X e (tD κ Γ (Is d')) := m ▸ h
theorem pdp_eq {d d' : PyData} (h : PE X e (tD κ Γ (IsP d))) (m : d = d') : PE X e (tD κ Γ (IsP d')) := m ▸ h
theorem pt_imp {Ta Tb : Bool → Prop} (h : PT X e (tT κ Γ Ta)) (m : ∀ d, Ta d → Tb d) : PT X e (tT κ Γ Tb) := pt_mono h fun _ _ _ ⟨H0, B, E, q⟩ => ⟨H0, B, E, fun v B' H' e s => q v B' H' e (m v s)⟩
theorem pt_eq {d d' : Bool} (h : PT X e (tT κ Γ (Is d))) (m : d = d') : PT X e (tT κ Γ (Is d')) := m ▸ h
theorem pn_l {T : List PyData → Prop} (h : PE X e (tN κ Γ T)) : PE X e (tL κ Γ T) := pe_mono h fun _ _ _ ⟨H0, B, E, q⟩ => ⟨H0, B, E, fun a vs ds B' H' x s _ _ h2 h3 => q a vs ds B' H' x s (.of h2) h3⟩
theorem pn_s {T : List PyData → Prop} (h : PE X e (tN κ Γ T)) : PE X e (tD κ Γ (fun d => ∃ xs, T xs ∧ d = .p (.list xs))) := pe_mono h fun _ _ _ ⟨H0, B, E, q⟩ => ⟨H0, B, E, fun a vs ds B' H' x s n1 n2 h2 h3 =>
  q _ _ (upd B' a (.lst vs)) H' (x.show_ n1 n2 h2) ⟨ds, s, rfl⟩ (Dp.lst (.of upd_same) (dpAll_mono (same_new n2) _ _ h3))⟩
theorem pn_d {xs : List PyData} (h : PE X e (tN κ Γ (Is xs))) : PE X e (tD κ Γ (IsP (.list xs))) := pd_imp (pn_s h) fun d ⟨ys, h1, h2⟩ => by
  cases h1
  exact h2
theorem pd_l {xs : List PyData} (h : PE X e (tD κ Γ (IsP (.list xs)))) : PE X e (tL κ Γ (Is xs)) := pe_mono h fun _ _ _ ⟨H0, B, E, q⟩ => ⟨H0, B, E, fun v d B' H' x s r => by
  cases s
  have r : Dp κ.K B' v (.list xs) := r
  cases r with
  | lst hs ha => exact q _ _ xs B' H' x rfl (x.s.seq hs) ha⟩
theorem pn_imp {T T' : List PyData → Prop} (h : PE X e (tN κ Γ T)) (m : ∀ d, T d → T' d) : PE X e (tN κ Γ T') := pe_mono h fun _ _ _ ⟨H0, B, E, q⟩ => ⟨H0, B, E, fun a vs ds B' H' x s => q a vs ds B' H' x (m ds s)⟩
theorem pn_eq {d d' : List PyData} (h : PE X e (tN κ Γ (Is d))) (m : d = d') : PE X e (tN κ Γ (Is d')) := m ▸ h
theorem pl_eq {d d' : List PyData} (h : PE X e (tL κ Γ (Is d))) (m : d = d') : PE X e (tL κ Γ (Is d')) := m ▸ h

/-! ### names, constants -/
theorem pd_var (i : Nat) {x : Str} {d : Dd} (hd : Γ[i]? = some (.d d) := by rfl) (hN : X.N[i]? = some x := by rfl) (hv : Vis X.env.scope x := by first | exact Or.inl rfl | exact Or.inr (Or.inl rfl) | exact Or.inr (Or.inr rfl)) (h1 : (x == ("__debug__" : Str)) = false := by decide)
    (h2 : (x == ("__classdict__" : Str)) = false := by decide) : PE X (.Name x pos) (tD κ Γ (Is d)) := pe_mono (pe_var hN hv h1 h2) fun σ H Q ⟨H0, B, E, q⟩ => by
  obtain ⟨v, e, r⟩ := E.d hd
  exact ⟨v, e, q v d B H (Ext.refl E.sub) rfl r⟩
/-- a list of this def's own, read -/
theorem pl_own (i : Nat) {x : Str} {xs : List PyData} (hd : Γ[i]? = some (.own xs) := by rfl) (hN : X.N[i]? = some x := by rfl) (hv : Vis X.env.scope x := by first | exact Or.inl rfl | exact Or.inr (Or.inl rfl) | exact Or.inr (Or.inr rfl)) (h1 : (x == ("__debug__" : Str)) = false := by decide)
    (h2 : (x == ("__classdict__" : Str)) = false := by decide) : PE X (.Name x pos) (tL κ Γ (Is xs)) := pe_mono (pe_var hN hv h1 h2) fun σ H Q ⟨H0, B, E, q⟩ => by
  obtain ⟨l, vs, e, h3, h4, h5, h6⟩ := E.own hd
  exact ⟨_, e, q l vs xs B H (Ext.refl E.sub) rfl (.of h5) h6⟩
theorem pd_int {i : Int} {j} : PE X (.Constant (.int i) j pos) (tD κ Γ (IsI i)) := pe_mono pe_int fun σ H Q ⟨H0, B, E, q⟩ => q _ _ B H (Ext.refl E.sub) rfl (Dp.int i)
theorem pd_bl {i : Bool} {j} : PE X (.Constant (.bool i) j pos) (tD κ Γ (IsB i)) := pe_mono pe_bl fun σ H Q ⟨H0, B, E, q⟩ => q _ _ B H (Ext.refl E.sub) rfl (Dp.bl i)
theorem pd_non {j} : PE X (.Constant .none j pos) (tD κ Γ (IsP .none)) := pe_mono pe_non fun σ H Q ⟨H0, B, E, q⟩ => q _ _ B H (Ext.refl E.sub) rfl Dp.non
theorem pd_str {x : Str} {j} : PE X (.Constant (.str x) j pos) (tD κ Γ (IsP (.str x))) := pe_mono pe_str fun σ H Q ⟨H0, B, E, q⟩ => q _ _ B H (Ext.refl E.sub) rfl (Dp.str x)
/-- an int of the module -/
theorem pd_globI {x : Str} {i : Int} (hg : Gl X x) (hm : ∃ t, X.mg x = some (.int i t)) (hd : (x == ("__debug__" : Str)) = false := by decide) : PE X (.Name x pos) (tD κ Γ (IsI i)) := by
  obtain ⟨t, hm⟩ := hm
  exact pe_mono (pe_glob (v := .int i) hg hm ⟨t, rfl⟩ hd) fun σ H Q ⟨H0, B, E, q⟩ => q _ _ B H (Ext.refl E.sub) rfl (Dp.int i)

/-! ### operators -/
/-- an operation on values does S to data -/
def Does (κ : Pw) (r : R2) (x y : Dd) (S : Dd → Prop) : Prop := ∀ B H v w, Same B H → Rep κ B v x → Rep κ B w y → ∀ Q : VK, (∀ z d B' H', Ext B H B' H' → S d → Rep κ B' z d → Q z H') → r v w H Q
def Does1 (κ : Pw) (r : V → Hp → VK → Prop) (x : Dd) (S : Dd → Prop) : Prop := ∀ B H v, Same B H → Rep κ B v x → ∀ Q : VK, (∀ z d B' H', Ext B H B' H' → S d → Rep κ B' z d → Q z H') → r v H Q
def DoesL (κ : Pw) (r : List V → Hp → VK → Prop) (xs : List Dd) (S : Dd → Prop) : Prop := ∀ B H vs, Same B H → RepAll κ B vs xs → ∀ Q : VK, (∀ z d B' H', Ext B H B' H' → S d → Rep κ B' z d → Q z H') → r vs H Q
theorem op_read {r : R2} (hr : ∀ x y, Sa x → Sb y → Does κ r x y S) : ∀ σ H Q, tD κ Γ S σ H Q → tOp r (tD κ Γ Sa) (tD κ Γ Sb) σ H Q := fun σ H Q ⟨H0, B, E, q⟩ =>
  ⟨H0, B, E, fun v x B1 H1 e1 s1 r1 => ⟨H0, B1, E.ext e1, fun w y B2 H2 e2 s2 r2 =>
    hr x y s1 s2 B2 H2 v w e2.s (rep_mono e2.b r1) r2 Q fun z d B3 H3 e3 s3 r3 => q z d B3 H3 ((e1.trans e2).trans e3) s3 r3⟩⟩
theorem pd_op {op : Operator} {r : R2} (ho : OpR X (binaryOp op) r) (hr : ∀ x y, Sa x → Sb y → Does κ r x y S) (ha : PE X a (tD κ Γ Sa)) (hb : PE X b (tD κ Γ Sb)) : PE X (.BinOp a op b pos) (tD κ Γ S) :=
  pe_mono (pe_op ho ha hb) (op_read hr)
theorem pd_cmp {op : CmpOp} {r : R2} (ho : OpR X (compareOp op) r) (hm : behindInMarks op b = false) (hr : ∀ x y, Sa x → Sb y → Does κ r x y S) (ha : PE X a (tD κ Γ Sa)) (hb : PE X b (tD κ Γ Sb)) : PE X (.Compare a [op] [b] pos) (tD κ Γ S) :=
  pe_mono (pe_cmpR ho ha hb hm) (op_read hr)
theorem pd_un1 {op : UnaryOp} {r : V → Hp → VK → Prop} (ho : UnR X (unaryOp op) r) (hr : ∀ x, Sa x → Does1 κ r x S) (ha : PE X a (tD κ Γ Sa)) : PE X (.UnaryOp op a pos) (tD κ Γ S) :=
  pe_mono (pe_un ho ha) fun σ H Q ⟨H0, B, E, q⟩ => ⟨H0, B, E, fun v x B1 H1 e1 s1 r1 => hr x s1 B1 H1 v e1.s r1 Q fun z d B3 H3 e3 s3 r3 => q z d B3 H3 (e1.trans e3) s3 r3⟩
theorem rep_int {B : Hp} {v : V} {i : Int} (h : Rep κ B v (.p (.int i))) : v = .int i := by
  have h : Dp κ.K B v (.int i) := h
  cases h; rfl
theorem rep_bool {B : Hp} {v : V} {i : Bool} (h : Rep κ B v (.p (.bool i))) : v = .bl i := by
  have h : Dp κ.K B v (.bool i) := h
  cases h; rfl
theorem rep_str {B : Hp} {v : V} {i : Str} (h : Rep κ B v (.p (.str i))) : v = .str i := by
  have h : Dp κ.K B v (.str i) := h
  cases h; rfl
theorem rep_none {B : Hp} {v : V} (h : Rep κ B v (.p .none)) : v = .non := by
  have h : Dp κ.K B v .none := h
  cases h; rfl
theorem rep_tup {B : Hp} {v : V} {ds : List PyData} (h : Rep κ B v (.p (.tuple ds))) : ∃ a vs, v = .ref a ∧ SqT κ.K B a vs ∧ DpAll κ.K B vs ds := by
  have h : Dp κ.K B v (.tuple ds) := h
  cases h with
  | tup hs ha => exact ⟨_, _, rfl, hs, ha⟩
theorem rep_lst {B : Hp} {v : V} {ds : List PyData} (h : Rep κ B v (.p (.list ds))) : ∃ a vs, v = .ref a ∧ SqL κ.K B a vs ∧ DpAll κ.K B vs ds := by
  have h : Dp κ.K B v (.list ds) := h
  cases h with
  | lst hs ha => exact ⟨_, _, rfl, hs, ha⟩
theorem does_I {C : Int → Int → Prop} {g : Int → Int → Int} {i j : Int} (hc : C i j) : Does κ (rI C fun i j => .int (g i j)) (.p (.int i)) (.p (.int j)) (IsI (g i j)) := fun B H v w e r1 r2 Q q => by
  cases rep_int r1; cases rep_int r2
  exact ⟨i, j, rfl, rfl, hc, q _ _ B H (Ext.refl e) rfl (Dp.int _)⟩
theorem does_I0 {g : Int → Int → Int} {i j : Int} : Does κ (rI0 fun i j => .int (g i j)) (.p (.int i)) (.p (.int j)) (IsI (g i j)) := fun B H v w e r1 r2 Q q => by
  cases rep_int r1; cases rep_int r2
  exact ⟨i, j, rfl, rfl, q _ _ B H (Ext.refl e) rfl (Dp.int _)⟩
theorem does_B0 {g : Int → Int → Bool} {i j : Int} : Does κ (rI0 fun i j => .bl (g i j)) (.p (.int i)) (.p (.int j)) (IsB (g i j)) := fun B H v w e r1 r2 Q q => by
  cases rep_int r1; cases rep_int r2
  exact ⟨i, j, rfl, rfl, q _ _ B H (Ext.refl e) rfl (Dp.bl _)⟩
theorem is2 {x y : Dd} {D : Dd → Dd → Prop} (h : D x y) : ∀ a b, Is x a → Is y b → D a b := fun a b ha hb => by
  cases ha; cases hb; exact h
theorem is1 {x : Dd} {D : Dd → Prop} (h : D x) : ∀ a, Is x a → D a := fun a ha => by
  cases ha; exact h
variable {i j : Int}
theorem pd_add (ha : PE X a (tD κ Γ (IsI i))) (hb : PE X b (tD κ Γ (IsI j))) : PE X (.BinOp a .Add b pos) (tD κ Γ (IsI (i + j))) := pd_op op_add (is2 does_I0) ha hb
theorem pd_sub (ha : PE X a (tD κ Γ (IsI i))) (hb : PE X b (tD κ Γ (IsI j))) : PE X (.BinOp a .Sub b pos) (tD κ Γ (IsI (i - j))) := pd_op op_sub (is2 does_I0) ha hb
theorem pd_mul (hc : CMul i j) (ha : PE X a (tD κ Γ (IsI i))) (hb : PE X b (tD κ Γ (IsI j))) : PE X (.BinOp a .Mult b pos) (tD κ Γ (IsI (i * j))) := pd_op op_mul (is2 (does_I hc)) ha hb
theorem pd_mod (hc : 0 < j) (ha : PE X a (tD κ Γ (IsI i))) (hb : PE X b (tD κ Γ (IsI j))) : PE X (.BinOp a .Mod b pos) (tD κ Γ (IsI (i % j))) := pd_op op_mod (is2 (does_I (C := fun _ j => 0 < j) hc)) ha hb
theorem pd_fdiv (hc : CDiv i j) (ha : PE X a (tD κ Γ (IsI i))) (hb : PE X b (tD κ Γ (IsI j))) : PE X (.BinOp a .FloorDiv b pos) (tD κ Γ (IsI (i / j))) := pd_op op_fdiv (is2 (does_I hc)) ha hb
theorem pd_pow (hc : CPow i j) (ha : PE X a (tD κ Γ (IsI i))) (hb : PE X b (tD κ Γ (IsI j))) : PE X (.BinOp a .Pow b pos) (tD κ Γ (IsI (i ^ j.toNat))) := pd_op op_pow (is2 (does_I hc)) ha hb
theorem pd_neg (ha : PE X a (tD κ Γ (IsI i))) : PE X (.UnaryOp .USub a pos) (tD κ Γ (IsI (-i))) := pd_un1 un_neg (is1 fun B H v e r Q q => by
  cases rep_int r
  exact ⟨i, rfl, q _ _ B H (Ext.refl e) rfl (Dp.int _)⟩) ha
/-- of ints -/
theorem pd_lt (ha : PE X a (tD κ Γ (IsI i))) (hb : PE X b (tD κ Γ (IsI j))) : PE X (.Compare a [.Lt] [b] pos) (tD κ Γ (IsB (decide (i < j)))) := pd_cmp op_lt (nomark _) (is2 does_B0) ha hb
theorem pd_le (ha : PE X a (tD κ Γ (IsI i))) (hb : PE X b (tD κ Γ (IsI j))) : PE X (.Compare a [.LtE] [b] pos) (tD κ Γ (IsB (decide (i ≤ j)))) := pd_cmp op_le (nomark _) (is2 does_B0) ha hb
theorem pd_gt (ha : PE X a (tD κ Γ (IsI i))) (hb : PE X b (tD κ Γ (IsI j))) : PE X (.Compare a [.Gt] [b] pos) (tD κ Γ (IsB (decide (j < i)))) := pd_cmp op_gt (nomark _) (is2 does_B0) ha hb
theorem pd_ge (ha : PE X a (tD κ Γ (IsI i))) (hb : PE X b (tD κ Γ (IsI j))) : PE X (.Compare a [.GtE] [b] pos) (tD κ Γ (IsB (decide (j ≤ i)))) := pd_cmp op_ge (nomark _) (is2 does_B0) ha hb
/-- of data, at any depth -/
theorem does_eq {x y : PyData} (hx : SeqAt.shaped x = true) (hy : SeqAt.shaped y = true) : Does κ (rEqD κ.K) (.p x) (.p y) (IsB (PyData.eqv x y)) := fun B H v w e r1 r2 Q q =>
  ⟨x, y, dp_mono e _ _ r1, dp_mono e _ _ r2, hx, hy, q _ _ B H (Ext.refl e) rfl (Dp.bl _)⟩
theorem does_ne {x y : PyData} (hx : SeqAt.shaped x = true) (hy : SeqAt.shaped y = true) : Does κ (rNeD κ.K) (.p x) (.p y) (IsB (!PyData.eqv x y)) := fun B H v w e r1 r2 Q q =>
  ⟨x, y, dp_mono e _ _ r1, dp_mono e _ _ r2, hx, hy, q _ _ B H (Ext.refl e) rfl (Dp.bl _)⟩
theorem pd_eqD {k : Nat} {x y : PyData} (hr : Room k X.A) (hx : SeqAt.shaped x = true) (hy : SeqAt.shaped y = true) (ha : PE X a (tD (pwOf X) Γ (IsP x))) (hb : PE X b (tD (pwOf X) Γ (IsP y))) : PE X (.Compare a [.Eq] [b] pos) (tD (pwOf X) Γ (IsB (PyData.eqv x y))) :=
  pd_cmp (op_eqD hr.units) (nomark _) (is2 (does_eq hx hy)) ha hb
theorem pd_neD {k : Nat} {x y : PyData} (hr : Room k X.A) (hx : SeqAt.shaped x = true) (hy : SeqAt.shaped y = true) (ha : PE X a (tD (pwOf X) Γ (IsP x))) (hb : PE X b (tD (pwOf X) Γ (IsP y))) : PE X (.Compare a [.NotEq] [b] pos) (tD (pwOf X) Γ (IsB (!PyData.eqv x y))) :=
  pd_cmp (op_neD hr.units) (nomark _) (is2 (does_ne hx hy)) ha hb
/-- is None -/
def isNone : PyData → Bool
  | .none => true
  | _ => false
theorem dp_isNone {K : PySem.W.Frag} {B : Hp} {v : V} {x : PyData} (h : Dp K B v x) : decide (v = .non) = isNone x := by
  cases h <;> rfl
theorem pd_isNone {x : PyData} {j p2} (ha : PE X a (tD κ Γ (IsP x))) : PE X (.Compare a [.Is] [.Constant .none j p2] pos) (tD κ Γ (IsB (isNone x))) :=
  pd_cmp op_isN (nomark _) (is2 fun B H v w e r1 r2 Q q => by
    cases rep_none r2
    refine ⟨rfl, ?_⟩
    rw [dp_isNone r1]
    exact q _ _ B H (Ext.refl e) rfl (Dp.bl _)) ha pd_non
theorem pd_notNone {x : PyData} {j p2} (ha : PE X a (tD κ Γ (IsP x))) : PE X (.Compare a [.IsNot] [.Constant .none j p2] pos) (tD κ Γ (IsB (!isNone x))) :=
  pd_cmp op_notN (nomark _) (is2 fun B H v w e r1 r2 Q q => by
    cases rep_none r2
    refine ⟨rfl, ?_⟩
    rw [dp_isNone r1]
    exact q _ _ B H (Ext.refl e) rfl (Dp.bl _)) ha pd_non

/-! ### and, or, not; tests -/
theorem pd_not {x : Bool} (ha : PE X a (tD κ Γ (IsB x))) : PE X (.UnaryOp .Not a pos) (tD κ Γ (IsB (!x))) := pe_mono (pe_not ha) fun σ H Q ⟨H0, B, E, q⟩ => ⟨H0, B, E, fun v d B1 H1 e1 s1 r1 => by
  cases s1; cases rep_bool r1
  exact ⟨x, rfl, q _ _ B1 H1 e1 rfl (Dp.bl _)⟩⟩
theorem pd_one {op} (ha : PE X a (tD κ Γ S)) : PE X (.BoolOp op [a] pos) (tD κ Γ S) := pe_one ha
theorem pd_and {x y : Bool} (ha : PE X a (tD κ Γ (IsB x))) (hb : x = true → PE X (.BoolOp .And (b :: es) pos) (tD κ Γ (IsB y))) : PE X (.BoolOp .And (a :: b :: es) pos) (tD κ Γ (IsB (x && y))) := by
  cases x with
  | true =>
    exact pe_mono (pe_and ha (hb rfl)) fun σ H Q ⟨H0, B, E, q⟩ => ⟨H0, B, E, fun v d B1 H1 e1 s1 r1 => by
      cases s1; cases rep_bool r1
      refine ⟨true, rfl, ?_⟩
      rw [if_pos rfl]
      exact ⟨H0, B1, E.ext e1, fun v d B2 H2 e2 s2 r2 => q v d B2 H2 (e1.trans e2) s2 r2⟩⟩
  | false =>
    exact pe_mono (pe_and (tb := fun _ _ _ => False) ha ⟨fun _ _ _ _ _ _ z => z.elim⟩) fun σ H Q ⟨H0, B, E, q⟩ => ⟨H0, B, E, fun v d B1 H1 e1 s1 r1 => by
      cases s1; cases rep_bool r1
      refine ⟨false, rfl, ?_⟩
      rw [if_neg (by decide)]
      exact q _ _ B1 H1 e1 rfl (Dp.bl _)⟩
theorem pd_or {x y : Bool} (ha : PE X a (tD κ Γ (IsB x))) (hb : x = false → PE X (.BoolOp .Or (b :: es) pos) (tD κ Γ (IsB y))) : PE X (.BoolOp .Or (a :: b :: es) pos) (tD κ Γ (IsB (x || y))) := by
  cases x with
  | false =>
    exact pe_mono (pe_or ha (hb rfl)) fun σ H Q ⟨H0, B, E, q⟩ => ⟨H0, B, E, fun v d B1 H1 e1 s1 r1 => by
      cases s1; cases rep_bool r1
      refine ⟨false, rfl, ?_⟩
      rw [if_neg (by decide)]
      exact ⟨H0, B1, E.ext e1, fun v d B2 H2 e2 s2 r2 => q v d B2 H2 (e1.trans e2) s2 r2⟩⟩
  | true =>
    exact pe_mono (pe_or (tb := fun _ _ _ => False) ha ⟨fun _ _ _ _ _ _ z => z.elim⟩) fun σ H Q ⟨H0, B, E, q⟩ => ⟨H0, B, E, fun v d B1 H1 e1 s1 r1 => by
      cases s1; cases rep_bool r1
      refine ⟨true, rfl, ?_⟩
      rw [if_pos rfl]
      exact q _ _ B1 H1 e1 rfl (Dp.bl _)⟩
/-- a bool as a test -/
theorem pt_d {T : Bool → Prop} (h : PE X e (tD κ Γ (fun d => ∃ b, T b ∧ d = .p (.bool b)))) (he : ∀ whole, isTrue e X.env whole = (do let v ← whole; standAt e.pos; holding [v] (truthy v)) := by intro _; rfl) : PT X e (tT κ Γ T) :=
  pt_mono (pt_val h he) fun σ H Q ⟨H0, B, E, q⟩ => ⟨H0, B, E, fun v d B1 H1 e1 s1 r1 => by
    obtain ⟨b, t, rfl⟩ := s1
    cases rep_bool r1
    exact ⟨b, rfl, q b B1 H1 e1 t⟩⟩
theorem pt_b {x : Bool} (h : PE X e (tD κ Γ (IsB x))) (he : ∀ whole, isTrue e X.env whole = (do let v ← whole; standAt e.pos; holding [v] (truthy v)) := by intro _; rfl) : PT X e (tT κ Γ (Is x)) :=
  pt_d (pd_imp h fun d s => ⟨x, rfl, s⟩) he
theorem ptb_not {T : Bool → Prop} (h : PT X a (tT κ Γ T)) : PT X (.UnaryOp .Not a pos) (tT κ Γ (fun b => T (!b))) := pt_mono (pt_not h) fun σ H Q ⟨H0, B, E, q⟩ => ⟨H0, B, E, fun b B1 H1 e1 t => q (!b) B1 H1 e1 (show T (!(!b)) by rw [Bool.not_not]; exact t)⟩
theorem ptb_not1 {x : Bool} (h : PT X a (tT κ Γ (Is x))) : PT X (.UnaryOp .Not a pos) (tT κ Γ (Is (!x))) := pt_imp (ptb_not h) fun d (s : (!d) = x) => by
  show d = !x
  rw [← s, Bool.not_not]
theorem pwb_one {T : Bool → Prop} (h : PT X a (tT κ Γ T)) : PW X (.BoolOp .And [a] pos) (tT κ Γ T) := pw_and1 h
theorem pwb_oneO {T : Bool → Prop} (h : PT X a (tT κ Γ T)) : PW X (.BoolOp .Or [a] pos) (tT κ Γ T) := pw_or1 h
theorem pwb_and {x y : Bool} (ha : PT X a (tT κ Γ (Is x))) (hb : x = true → PW X (.BoolOp .And (b :: es) pos) (tT κ Γ (Is y))) : PW X (.BoolOp .And (a :: b :: es) pos) (tT κ Γ (Is (x && y))) := by
  cases x with
  | true =>
    exact pw_mono (pw_and ha (hb rfl)) fun σ H Q ⟨H0, B, E, q⟩ => ⟨H0, B, E, fun b B1 H1 e1 t => by
      cases t
      show (if true = true then _ else _)
      rw [if_pos rfl]
      exact ⟨H0, B1, E.ext e1, fun b B2 H2 e2 t => q b B2 H2 (e1.trans e2) t⟩⟩
  | false =>
    exact pw_mono (pw_and (tB' := fun _ _ _ => False) ha ⟨fun _ _ _ _ _ _ _ z => z.elim⟩) fun σ H Q ⟨H0, B, E, q⟩ => ⟨H0, B, E, fun b B1 H1 e1 t => by
      cases t
      show (if false = true then _ else _)
      rw [if_neg (by decide)]
      exact q _ B1 H1 e1 rfl⟩
/-- or, told by what may come of it -/
theorem pwb_or {Ta Tb T : Bool → Prop} (ha : PT X a (tT κ Γ Ta)) (hb : PW X (.BoolOp .Or (b :: es) pos) (tT κ Γ Tb)) (h1 : Ta true → T true) (h2 : ∀ x, Ta false → Tb x → T x) : PW X (.BoolOp .Or (a :: b :: es) pos) (tT κ Γ T) := by
  exact pw_mono (pw_or ha hb) fun σ H Q ⟨H0, B, E, q⟩ => ⟨H0, B, E, fun b B1 H1 e1 t => by
      cases b with
      | true =>
        show (if true = true then _ else _)
        rw [if_pos rfl]
        exact q _ B1 H1 e1 (h1 t)
      | false =>
        show (if false = true then _ else _)
        rw [if_neg (by decide)]
        exact ⟨H0, B1, E.ext e1, fun b B2 H2 e2 t2 => q b B2 H2 (e1.trans e2) (h2 b t t2)⟩⟩
theorem pwb_or1 {x y : Bool} (ha : PT X a (tT κ Γ (Is x))) (hb : x = false → PW X (.BoolOp .Or (b :: es) pos) (tT κ Γ (Is y))) : PW X (.BoolOp .Or (a :: b :: es) pos) (tT κ Γ (Is (x || y))) := by
  cases x with
  | false => exact pwb_or ha (hb rfl) (fun z => by cases z) (fun z _ h => by simpa using h)
  | true =>
    exact pw_mono (pw_or (tB' := fun _ _ _ => False) ha ⟨fun _ _ _ _ _ _ _ z => z.elim⟩) fun σ H Q ⟨H0, B, E, q⟩ => ⟨H0, B, E, fun b B1 H1 e1 t => by
      cases t
      show (if true = true then _ else _)
      rw [if_pos rfl]
      exact q _ B1 H1 e1 rfl⟩
/-- a if t else b -/
theorem pd_if {T : Bool → Prop} (ht : PT X c (tT κ Γ T)) (ha : T true → PE X a (tD κ Γ S)) (hb : T false → PE X b (tD κ Γ S)) : PE X (.IfExp c a b pos) (tD κ Γ S) := by
  have ha' : PE X a (fun σ H Q => T true ∧ tD κ Γ S σ H Q) := ⟨fun pins s σ H Q I ⟨t, q⟩ => (ha t).run pins s σ H Q I q⟩
  have hb' : PE X b (fun σ H Q => T false ∧ tD κ Γ S σ H Q) := ⟨fun pins s σ H Q I ⟨t, q⟩ => (hb t).run pins s σ H Q I q⟩
  refine pe_mono (pe_ifExp ht ha' hb') fun σ H Q ⟨H0, B, E, q⟩ => ⟨H0, B, E, fun b B1 H1 e1 t => ?_⟩
  have q2 : tD κ Γ S σ H1 Q := ⟨H0, B1, E.ext e1, fun v d B2 H2 e2 s2 r2 => q v d B2 H2 (e1.trans e2) s2 r2⟩
  cases b with
  | true =>
    show (if true = true then _ else _)
    rw [if_pos rfl]
    exact ⟨t, q2⟩
  | false =>
    show (if false = true then _ else _)
    rw [if_neg (by decide)]
    exact ⟨t, q2⟩
theorem pd_if1 {x : Bool} {d d' : Dd} (ht : PT X c (tT κ Γ (Is x))) (ha : x = true → PE X a (tD κ Γ (Is d))) (hb : x = false → PE X b (tD κ Γ (Is d'))) : PE X (.IfExp c a b pos) (tD κ Γ (Is (if x = true then d else d'))) := by
  refine pd_if ht (fun t => ?_) (fun t => ?_)
  · have t : true = x := t
    subst t
    simpa using ha rfl
  · have t : false = x := t
    subst t
    simpa using hb rfl

/-! ### arguments, displays -/
theorem ps_nil : PA X [] (tA κ Γ (Is [])) := pa_mono pa_nil fun σ H Q ⟨H0, B, E, q⟩ => q [] [] B H (Ext.refl E.sub) rfl .nil
theorem ps_consS {T T' : List Dd → Prop} (ha : PE X e (tD κ Γ Sa)) (hr : PA X es (tA κ Γ T)) (m : ∀ d ds, Sa d → T ds → T' (d :: ds)) (hs : starEach (e :: es) X.env = (false, eval e X.env) :: starEach es X.env := by rfl) : PA X (e :: es) (tA κ Γ T') :=
  pa_mono (pa_cons ha hr hs) fun σ H Q ⟨H0, B, E, q⟩ => ⟨H0, B, E, fun v d B1 H1 e1 s1 r1 => ⟨H0, B1, E.ext e1, fun vs ds B2 H2 e2 s2 r2 => q (v :: vs) (d :: ds) B2 H2 (e1.trans e2) (m d ds s1 s2) (.cons (rep_mono e2.b r1) r2)⟩⟩
theorem ps_cons {d : Dd} {ds : List Dd} (ha : PE X e (tD κ Γ (Is d))) (hr : PA X es (tA κ Γ (Is ds))) (hs : starEach (e :: es) X.env = (false, eval e X.env) :: starEach es X.env := by rfl) : PA X (e :: es) (tA κ Γ (Is (d :: ds))) :=
  ps_consS ha hr (fun _ _ h1 h2 => by cases h1; cases h2; rfl) hs
theorem repAll_p {B : Hp} : ∀ {vs : List V} {ds : List PyData}, RepAll κ B vs (ds.map Dd.p) → DpAll κ.K B vs ds
  | _, [], h => by cases h; exact .nil
  | _, d :: ds, h => by
    cases h with
    | cons h1 h2 => exact .cons h1 (repAll_p h2)
theorem repAll_of {B : Hp} : ∀ {vs : List V} {ds : List PyData}, DpAll κ.K B vs ds → RepAll κ B vs (ds.map Dd.p)
  | _, _, .nil => .nil
  | _, _, .cons h1 h2 => .cons h1 (repAll_of h2)
theorem paired_len {α β : Type} {R : α → β → Prop} : ∀ {xs : List α} {ys : List β}, Paired R xs ys → xs.length = ys.length
  | _, _, .nil => rfl
  | _, _, .cons _ t => congrArg (· + 1) (paired_len t)
theorem pd_tupS {k} {T : List PyData → Prop} (h : PA X es (tA κ Γ (fun ds => ∃ xs, T xs ∧ ds = xs.map Dd.p))) (hl : ∀ xs, T xs → xs.length ≤ 1000) : PE X (.Tuple es k pos) (tD κ Γ (fun d => ∃ xs, T xs ∧ d = .p (.tuple xs))) :=
  pe_mono (pe_tup h) fun σ H Q ⟨H0, B, E, q⟩ => ⟨H0, B, E, fun vs ds B1 H1 e1 s1 r1 => by
    obtain ⟨xs, t, rfl⟩ := s1
    have r := repAll_p r1
    refine ⟨?_, fun p hp => ?_⟩
    · rw [dpAll_len r]
      exact Nat.le_of_lt (small1000 (hl xs t))
    · have x2 := Ext.new (o := .tup vs) e1.s hp
      exact q _ _ _ _ (e1.trans x2) ⟨xs, t, rfl⟩ (Dp.tup (.of upd_same) (dpAll_mono x2.b _ _ r))⟩
theorem pd_tup {k} {ds : List Dd} {xs : List PyData} (h : PA X es (tA κ Γ (Is ds))) (he : ds = xs.map Dd.p := by rfl) (hl : xs.length ≤ 1000 := by simp) : PE X (.Tuple es k pos) (tD κ Γ (IsP (.tuple xs))) :=
  pd_imp (pd_tupS (T := Is xs) (pa_mono h fun σ H Q ⟨H0, B, E, q⟩ => ⟨H0, B, E, fun vs es B1 H1 e1 s1 r1 => q vs es B1 H1 e1 ⟨xs, rfl, by cases s1; exact he⟩ r1⟩) fun ys h => by cases h; exact hl) fun d ⟨ys, h1, h2⟩ => by cases h1; exact h2
theorem pn_lstS {T : List PyData → Prop} (h : PA X es (tA κ Γ (fun ds => ∃ xs, T xs ∧ ds = xs.map Dd.p))) (hl : ∀ xs, T xs → xs.length ≤ 1000) : PE X (.List es pos) (tN κ Γ T) :=
  pe_mono (pe_lst h) fun σ H Q ⟨H0, B, E, q⟩ => ⟨H0, B, E, fun vs ds B1 H1 e1 s1 r1 => by
    obtain ⟨xs, t, rfl⟩ := s1
    have r := repAll_p r1
    refine ⟨?_, fun p hp => ?_⟩
    · rw [dpAll_len r]
      exact Nat.le_of_lt (small1000 (hl xs t))
    · exact q p vs xs B1 _ (e1.trans (Ext.hid e1.s hp)) t (e1.h.free hp) (e1.s.free hp) upd_same r⟩
theorem pn_lst {ds : List Dd} {xs : List PyData} (h : PA X es (tA κ Γ (Is ds))) (he : ds = xs.map Dd.p := by rfl) (hl : xs.length ≤ 1000 := by simp) : PE X (.List es pos) (tN κ Γ (Is xs)) :=
  pn_lstS (pa_mono h fun σ H Q ⟨H0, B, E, q⟩ => ⟨H0, B, E, fun vs es B1 H1 e1 s1 r1 => q vs es B1 H1 e1 ⟨xs, rfl, by cases s1; exact he⟩ r1⟩) fun ys h => by cases h; exact hl
end
end K62
/-! what is walked; comprehensions -/
namespace K62
open PySem PySem.Spec PyProof.Rows L2

/-- every list and tuple has a possible size -/
def Sz (K : PySem.W.Frag) (H : Hp) : Prop := (∀ a xs, SqL K H a xs → xs.length ≤ sizeLine) ∧ ∀ a xs, SqT K H a xs → xs.length ≤ sizeLine
section
variable {X : Cx} {e a b c tg iter : Expr} {es : List Expr} {pos : Pos} {Γ : List Sl} {κ : Pw}
theorem sz_of {pins : List (Addr × Obj)} {σ : L2.St} {H : Hp} {s : Shared} (I : Inv X pins σ H s) : Sz X.K H := ⟨fun _ _ h => (I.list h).choose_spec.2.2, fun _ _ h => (I.tuple h).choose_spec.2.2⟩
theorem pe_sz {t : TE} (h : PE X e t) : PE X e (fun σ H Q => t σ H fun v H' => Sz X.K H' → Q v H') := ⟨fun pins s σ H Q I q => thn (h.run pins s σ H _ I q) fun u s1 ⟨v, H', I1, r, k⟩ => ⟨v, H', I1, r, k (sz_of I1)⟩⟩
theorem pa_sz {t : TA} (h : PA X es t) : PA X es (fun σ H Q => t σ H fun v H' => Sz X.K H' → Q v H') := ⟨fun p pins s σ H Q I q => thn (h.run p pins s σ H _ I q) fun u s1 ⟨v, H', I1, r, k⟩ => ⟨v, H', I1, r, k (sz_of I1)⟩⟩
end

/-- a walk hands out what stands for as, each stored by g; ts: the slots that it stores -/
def Feeds (κ : Pw) {ι : Type} (J : It) (g : TG) (ts : List Nat) (as : List ι) (up : ι → List Sl → List Sl) (B1 : Hp) : Prop :=
  as.length ≤ sizeLine ∧ ∀ B H, Same B1 B → Same B H → J.stop as.length H ∧ ∀ i a, as[i]? = some a → J.go i H ∧ ∀ x H', J.yld i H x H' → ∀ H0 σ Γ, Env κ H0 B H σ Γ → ∀ Q : L2.St → Hp → Prop,
    (∀ B' H2 σ', Ext B H B' H2 → (σ'.length = σ.length ∧ ∀ j, j ∉ ts → σ'[j]? = σ[j]?) → Env κ H0 B' H2 σ' (up a Γ) → Q σ' H2) → g x σ H' Q
def SrcOk (κ : Pw) {ι : Type} (Γ : List Sl) (wi : TI) (g : TG) (ts : List Nat) (as : List ι) (up : ι → List Sl → List Sl) : Prop :=
  ∀ H0 B σ H, Env κ H0 B H σ Γ → ∀ R : It → Hp → Prop, (∀ J B1 H1, Ext B H B1 H1 → Feeds κ J g ts as up B1 → R J H1) → wi σ H R
/-- where a walk comes from, its target told apart -/
structure Src (X : Cx) {ι : Type} (tg iter : Expr) (Γ : List Sl) (g : TG) (ts : List Nat) (as : List ι) (up : ι → List Sl → List Sl) : Prop where
  ex : ∃ wi, PI X tg iter wi ∧ SrcOk (pwOf X) Γ wi g ts as up

section
variable {X : Cx} {e a b c tg iter : Expr} {es : List Expr} {pos : Pos} {Γ : List Sl} {κ : Pw} {ι ι2 : Type} {as : List ι} {bs : List ι2} {enc : ι → PyData} {enc2 : ι2 → PyData}
/-- the slot j takes the item -/
abbrev up1 (j : Nat) (enc : ι → PyData) : ι → List Sl → List Sl := fun a Γ => Γ.set j (.d (.p (enc a)))
abbrev up2 (j k : Nat) (enc : ι → PyData) (enc2 : ι2 → PyData) : ι × ι2 → List Sl → List Sl := fun p Γ => (Γ.set j (.d (.p (enc p.1)))).set k (.d (.p (enc2 p.2)))
theorem map_get {as : List ι} {i : Nat} {x : ι} (h : as[i]? = some x) : (as.map enc)[i]? = some (enc x) := by rw [List.getElem?_map, h]; rfl
theorem feeds_name {J : It} {j : Nat} {B1 : Hp} (hl : as.length ≤ sizeLine) (h : ∀ B H, Same B1 B → Same B H → J.stop as.length H ∧ ∀ i x, as[i]? = some x → J.go i H ∧ ∀ v H', J.yld i H v H' → H' = H ∧ Dp κ.K B v (enc x)) : Feeds κ J (gName j) [j] as (up1 j enc) B1 := by
  refine ⟨hl, fun B H b1 b2 => ⟨(h B H b1 b2).1, fun i x hx => ⟨((h B H b1 b2).2 i x hx).1, fun v H' y H0 σ Γ E Q q => ?_⟩⟩⟩
  obtain ⟨rfl, r⟩ := ((h B H b1 b2).2 i x hx).2 v H' y
  exact q B _ _ (Ext.refl b2) ⟨List.length_set, fun k hk => List.getElem?_set_ne (by simpa [eq_comm] using hk)⟩ (E.setD r)
theorem src_list {j : Nat} (h : PE X iter (tD (pwOf X) Γ (IsP (.list (as.map enc))))) : Src X tg iter Γ (gName j) [j] as (up1 j enc) := by
  refine ⟨⟨_, pi_list (pe_sz h), fun H0 B σ H E R q => ⟨H0, B, E, fun v d B' H' x s r sz => ?_⟩⟩⟩
  cases s
  obtain ⟨l, vs, rfl, hl, ha⟩ := rep_lst r
  have hn : vs.length = as.length := by rw [dpAll_len ha, List.length_map]
  refine ⟨l, rfl, ⟨vs, x.s.seq hl⟩, q _ B' H' x (feeds_name (by rw [← hn]; exact sz.1 _ _ (x.s.seq hl)) fun B2 H2 b1 b2 => ⟨⟨vs, b2.seq (b1.seq hl), by omega⟩, fun i y hy => ?_⟩)⟩
  obtain ⟨v, hv, r⟩ := dpAll_get ha (map_get hy)
  refine ⟨⟨vs, v, b2.seq (b1.seq hl), hv⟩, fun u H3 yy => ⟨yy.1, ?_⟩⟩
  rw [hv.symm.trans (yy.2 vs (b2.seq (b1.seq hl))) |> Option.some.inj |>.symm]
  exact dp_mono b1 _ _ r
theorem src_tup {j : Nat} (h : PE X iter (tD (pwOf X) Γ (IsP (.tuple (as.map enc))))) : Src X tg iter Γ (gName j) [j] as (up1 j enc) := by
  refine ⟨⟨_, pi_tup (pe_sz h), fun H0 B σ H E R q => ⟨H0, B, E, fun v d B' H' x s r sz => ?_⟩⟩⟩
  cases s
  obtain ⟨l, vs, rfl, hl, ha⟩ := rep_tup r
  have hn : vs.length = as.length := by rw [dpAll_len ha, List.length_map]
  refine ⟨l, rfl, ⟨vs, same_t x.s hl⟩, q _ B' H' x (feeds_name (by rw [← hn]; exact sz.2 _ _ (same_t x.s hl)) fun B2 H2 b1 b2 => ⟨⟨vs, same_t b2 (same_t b1 hl), by omega⟩, fun i y hy => ?_⟩)⟩
  obtain ⟨v, hv, r⟩ := dpAll_get ha (map_get hy)
  refine ⟨⟨vs, v, same_t b2 (same_t b1 hl), hv⟩, fun u H3 yy => ⟨yy.1, ?_⟩⟩
  rw [hv.symm.trans (yy.2 vs (same_t b2 (same_t b1 hl))) |> Option.some.inj |>.symm]
  exact dp_mono b1 _ _ r
/-- range(n) -/
theorem src_range1 {j n : Nat} {p : Pos} (hg : Gl X "range") (hm : X.mg "range" = none) (hn : n ≤ 1000) (h : PE X a (tD (pwOf X) Γ (IsI n))) (hs : starEach [a] X.env = (false, eval a X.env) :: starEach [] X.env := by rfl) (hs2 : starEach [a] X.env = [(false, eval a X.env)] := by rfl) :
    Src X tg (.Call (.Name "range" p) [a] [] pos) Γ (gName j) [j] (List.range n) (up1 j fun k => .int (k : Nat)) := by
  have hb : (n : Int) < 2 ^ 62 := by
    have e : (2 : Int) ^ 62 = 4611686018427387904 := by decide
    rw [e]; omega
  have hb0 : -(2 : Int) ^ 62 ≤ 0 := by decide
  refine ⟨⟨_, pi_range1 hg hm (ps_cons h ps_nil hs) hs2, fun H0 B σ H E R q => ⟨H0, B, E, fun vs ds B' H' x s r => ?_⟩⟩⟩
  cases s
  cases r with
  | cons r1 r2 =>
    cases r2
    cases rep_int r1
    refine ⟨n, rfl, by omega, hb, q _ B' H' x (feeds_name (by rw [List.length_range, sizeLine_eq]; omega) fun B2 H2 b1 b2 => ⟨?_, fun i y hy => ?_⟩)⟩
    · show ((n : Int)).toNat ≤ (List.range n).length
      rw [List.length_range]; omega
    · obtain ⟨hi, hy⟩ := List.getElem?_eq_some_iff.mp hy
      rw [List.getElem_range] at hy
      rw [List.length_range] at hi
      refine ⟨(by show i < ((n : Int)).toNat; omega), fun u H3 yy => ⟨yy.1, ?_⟩⟩
      have e : u = .int (0 + i) := yy.2
      rw [e, ← hy, Int.zero_add]
      exact Dp.int _
/-- range(lo, hi) -/
theorem src_range2 {j : Nat} {lo hi : Int} {p : Pos} (hg : Gl X "range") (hm : X.mg "range" = none) (h1 : -1000 ≤ lo) (h2 : lo ≤ 1000) (h3 : -1000 ≤ hi) (h4 : hi ≤ 1000) (ha : PE X a (tD (pwOf X) Γ (IsI lo))) (hb : PE X b (tD (pwOf X) Γ (IsI hi)))
    (hs : starEach [a, b] X.env = (false, eval a X.env) :: starEach [b] X.env := by rfl) (hs' : starEach [b] X.env = (false, eval b X.env) :: starEach [] X.env := by rfl)
    (hs2 : starEach [a, b] X.env = [(false, eval a X.env), (false, eval b X.env)] := by rfl) (hs3 : starEach [b] X.env = [(false, eval b X.env)] := by rfl) :
    Src X tg (.Call (.Name "range" p) [a, b] [] pos) Γ (gName j) [j] ((List.range (hi - lo).toNat).map fun (k : Nat) => lo + (k : Int)) (up1 j fun k => .int k) := by
  have e62 : (2 : Int) ^ 62 = 4611686018427387904 := by decide
  refine ⟨⟨_, pi_range2 hg hm (ps_cons ha (ps_cons hb ps_nil hs') hs) hs2 hs3, fun H0 B σ H E R q => ⟨H0, B, E, fun vs ds B' H' x s r => ?_⟩⟩⟩
  cases s
  cases r with
  | cons r1 r2 =>
    cases r2 with
    | cons r2 r3 =>
      cases r3
      cases rep_int r1
      cases rep_int r2
      refine ⟨lo, hi, rfl, ⟨by rw [e62]; omega, by rw [e62]; omega, by rw [e62]; omega, by rw [e62]; omega⟩, q _ B' H' x (feeds_name (by rw [List.length_map, List.length_range, sizeLine_eq]; omega) fun B2 H2 b1 b2 => ⟨?_, fun i y hy => ?_⟩)⟩
      · show (hi - lo).toNat ≤ _
        rw [List.length_map, List.length_range]; omega
      · rw [List.getElem?_map] at hy
        obtain ⟨k, hk, hy⟩ := Option.map_eq_some_iff.mp hy
        obtain ⟨hi2, hk⟩ := List.getElem?_eq_some_iff.mp hk
        rw [List.getElem_range] at hk
        rw [List.length_range] at hi2
        refine ⟨(by show i < (hi - lo).toNat; omega), fun u H3 yy => ⟨yy.1, ?_⟩⟩
        have e : u = .int (lo + i) := yy.2
        rw [e, ← hy, ← hk]
        exact Dp.int _
/-! ### a pair of targets -/
abbrev gPair (K : PySem.W.Frag) (j k : Nat) : TG := gTup K 2 (gCons (gName j) (gCons (gName k) gNil))
theorem pair_store {K : PySem.W.Frag} {T : Addr} {x y : V} {j k : Nat} {H : Hp} {σ : L2.St} {Q : L2.St → Hp → Prop} (hT : SqT K H T [x, y]) (q : Q ((σ.set j (some x)).set k (some y)) H) : gPair K j k (.ref T) σ H Q :=
  ⟨T, [x, y], rfl, hT, rfl, x, [y], rfl, y, [], rfl, rfl, q⟩
theorem pair_keep {σ : L2.St} {x y : Option V} {j k : Nat} : ((σ.set j x).set k y).length = σ.length ∧ ∀ i, i ∉ [j, k] → ((σ.set j x).set k y)[i]? = σ[i]? := by
  refine ⟨by rw [List.length_set, List.length_set], fun i hi => ?_⟩
  simp only [List.mem_cons, List.not_mem_nil, or_false, not_or] at hi
  rw [List.getElem?_set_ne (Ne.symm hi.2), List.getElem?_set_ne (Ne.symm hi.1)]
theorem feeds_pair {J : It} {j k : Nat} {B1 : Hp} {α β : Type} {ps : List (α × β)} {ea : α → PyData} {eb : β → PyData} (hl : ps.length ≤ sizeLine) (h : ∀ B H, Same B1 B → Same B H → J.stop ps.length H ∧ ∀ i x, ps[i]? = some x → J.go i H ∧
    ∀ v H', J.yld i H v H' → ∃ T u w, v = .ref T ∧ H T = none ∧ H' = upd H T (.tup [u, w]) ∧ Dp κ.K B u (ea x.1) ∧ Dp κ.K B w (eb x.2)) : Feeds κ J (gPair κ.K j k) [j, k] ps (up2 j k ea eb) B1 := by
  refine ⟨hl, fun B H b1 b2 => ⟨(h B H b1 b2).1, fun i x hx => ⟨((h B H b1 b2).2 i x hx).1, fun v H' y H0 σ Γ E Q q => ?_⟩⟩⟩
  obtain ⟨T, u, w, rfl, hT, rfl, r1, r2⟩ := ((h B H b1 b2).2 i x hx).2 v H' y
  have x1 := Ext.hid (o := .tup [u, w]) b2 hT
  exact pair_store (.of upd_same) (q B _ _ x1 pair_keep (((E.ext x1).setD (x := .p (ea x.1)) r1).setD (x := .p (eb x.2)) r2))
/-- zip of two tuples -/
theorem src_zip {j k : Nat} {elts : List Expr} {kk : Nat} {p tpos : Pos} (hg : Gl X "zip") (hm : X.mg "zip" = none) (ha : PE X a (tD (pwOf X) Γ (IsP (.tuple (as.map enc))))) (hb : PE X b (tD (pwOf X) Γ (IsP (.tuple (bs.map enc2)))))
    (hs : starEach [a, b] X.env = (false, eval a X.env) :: starEach [b] X.env := by rfl) (hs' : starEach [b] X.env = (false, eval b X.env) :: starEach [] X.env := by rfl) (hpl : (backTo pos (starEach [b] X.env)).any (·.1) = false := by rfl) :
    Src X (.Tuple elts kk tpos) (.Call (.Name "zip" p) [a, b] [] pos) Γ (gPair X.K j k) [j, k] (as.zip bs) (up2 j k enc enc2) := by
  refine ⟨⟨_, RZ.pi_zipA hg hm (pa_sz (ps_cons ha (ps_cons hb ps_nil hs') hs)) hs hpl, fun H0 B σ H E R q => ⟨H0, B, E, fun vs ds B' H' x s r sz => ?_⟩⟩⟩
  cases s
  cases r with
  | cons r1 r2 =>
    cases r2 with
    | cons r2 r3 =>
      cases r3
      obtain ⟨l, us, rfl, hl, hu⟩ := rep_tup r1
      obtain ⟨l2, ws, rfl, hl2, hw⟩ := rep_tup r2
      have n1 : us.length = as.length := by rw [dpAll_len hu, List.length_map]
      have n2 : ws.length = bs.length := by rw [dpAll_len hw, List.length_map]
      have z1 := sz.2 _ _ (same_t x.s hl)
      refine ⟨l, l2, us, ws, rfl, .inr ⟨same_t x.s hl, same_t x.s hl2, q _ B' H' x (feeds_pair (by rw [List.length_zip]; omega) fun B2 H2 b1 b2 => ⟨⟨us, ws, same_t b2 (same_t b1 hl), same_t b2 (same_t b1 hl2), ?_⟩, fun i y hy => ?_⟩)⟩⟩
      · rw [List.length_zip]; omega
      · obtain ⟨e1, e2⟩ := List.getElem?_zip_eq_some.mp hy
        obtain ⟨u, hu1, ru⟩ := dpAll_get hu (map_get e1)
        obtain ⟨w, hw1, rw'⟩ := dpAll_get hw (map_get e2)
        refine ⟨⟨us, ws, u, w, same_t b2 (same_t b1 hl), same_t b2 (same_t b1 hl2), hu1, hw1⟩, fun v H3 yy => ?_⟩
        obtain ⟨T, u', w', rfl, hT, rfl, f1, f2⟩ := yy
        have eu := Option.some.inj (hu1.symm.trans (f1 us (same_t b2 (same_t b1 hl))))
        have ew := Option.some.inj (hw1.symm.trans (f2 ws (same_t b2 (same_t b1 hl2))))
        subst eu; subst ew
        exact ⟨T, _, _, rfl, hT, rfl, dp_mono b1 _ _ ru, dp_mono b1 _ _ rw'⟩
/-- enumerate of a list -/
theorem src_enumL {j k : Nat} {elts : List Expr} {kk : Nat} {p tpos : Pos} (hg : Gl X "enumerate") (hm : X.mg "enumerate" = none) (ha : PE X a (tD (pwOf X) Γ (IsP (.list (as.map enc)))))
    (hs : starEach [a] X.env = (false, eval a X.env) :: starEach [] X.env := by rfl) (hs2 : starEach [a] X.env = [(false, eval a X.env)] := by rfl) :
    Src X (.Tuple elts kk tpos) (.Call (.Name "enumerate" p) [a] [] pos) Γ (gPair X.K j k) [j, k] ((List.range as.length).zip as) (up2 j k (fun i => .int (i : Nat)) enc) := by
  refine ⟨⟨_, pi_enum hg hm (pa_sz (ps_cons ha ps_nil hs)) hs2, fun H0 B σ H E R q => ⟨H0, B, E, fun vs ds B' H' x s r sz => ?_⟩⟩⟩
  cases s
  cases r with
  | cons r1 r2 =>
    cases r2
    obtain ⟨l, us, rfl, hl, hu⟩ := rep_lst r1
    have n1 : us.length = as.length := by rw [dpAll_len hu, List.length_map]
    have z1 := sz.1 _ _ (x.s.seq hl)
    refine ⟨l, us, rfl, x.s.seq hl, q _ B' H' x (feeds_pair (by rw [List.length_zip, List.length_range]; omega) fun B2 H2 b1 b2 => ⟨⟨us, b2.seq (b1.seq hl), by rw [List.length_zip, List.length_range]; omega⟩, fun i y hy => ?_⟩)⟩
    obtain ⟨e1, e2⟩ := List.getElem?_zip_eq_some.mp hy
    obtain ⟨u, hu1, ru⟩ := dpAll_get hu (map_get e2)
    refine ⟨⟨us, u, b2.seq (b1.seq hl), hu1⟩, fun v H3 yy => ?_⟩
    obtain ⟨T, u', rfl, hT, rfl, f1⟩ := yy
    have eu := Option.some.inj (hu1.symm.trans (f1 us (b2.seq (b1.seq hl))))
    subst eu
    obtain ⟨hi, hk⟩ := List.getElem?_eq_some_iff.mp e1
    rw [List.getElem_range] at hk
    refine ⟨T, _, _, rfl, hT, rfl, ?_, dp_mono b1 _ _ ru⟩
    rw [← hk]
    exact Dp.int _
/-- pairs, out of a list of them -/
theorem src_pairs {j k : Nat} {elts : List Expr} {kk : Nat} {tpos : Pos} {α β : Type} {ps : List (α × β)} {ea : α → PyData} {eb : β → PyData} (h : PE X iter (tD (pwOf X) Γ (IsP (.list (ps.map fun p => .tuple [ea p.1, eb p.2]))))) :
    Src X (.Tuple elts kk tpos) iter Γ (gPair X.K j k) [j, k] ps (up2 j k ea eb) := by
  refine ⟨⟨_, pi_list (pe_sz h), fun H0 B σ H E R q => ⟨H0, B, E, fun v d B' H' x s r sz => ?_⟩⟩⟩
  cases s
  obtain ⟨l, vs, rfl, hl, ha⟩ := rep_lst r
  have hn : vs.length = ps.length := by rw [dpAll_len ha, List.length_map]
  refine ⟨l, rfl, ⟨vs, x.s.seq hl⟩, q _ B' H' x ⟨by rw [← hn]; exact sz.1 _ _ (x.s.seq hl), fun B2 H2 b1 b2 => ⟨⟨vs, b2.seq (b1.seq hl), by omega⟩, fun i y hy => ?_⟩⟩⟩
  obtain ⟨v, hv, r⟩ := dpAll_get ha (map_get (enc := fun p : α × β => PyData.tuple [ea p.1, eb p.2]) hy)
  refine ⟨⟨vs, v, b2.seq (b1.seq hl), hv⟩, fun u H3 yy H4 σ4 Γ4 E4 Q4 q4 => ?_⟩
  obtain ⟨rfl, f⟩ := yy
  have eu := Option.some.inj (hv.symm.trans (f vs (b2.seq (b1.seq hl))))
  subst eu
  cases r with
  | tup ht h2 =>
    cases h2 with
    | cons r1 h3 =>
      cases h3 with
      | cons r2 h4 =>
        cases h4
        exact pair_store (same_t b2 (same_t b1 ht)) (q4 B2 _ _ (Ext.refl b2) pair_keep ((E4.setD (x := .p (ea y.1)) (dp_mono b1 _ _ r1)).setD (x := .p (eb y.2)) (dp_mono b1 _ _ r2)))

/-! ### comprehensions -/
theorem wipe_get {σ : L2.St} {vs : List Nat} {i : Nat} (h : i ∉ vs) : (L2.wipe σ vs)[i]? = σ[i]? := by
  induction vs with
  | nil => rfl
  | cons v vs ih =>
    rw [List.mem_cons, not_or] at h
    show ((L2.wipe σ vs).set v none)[i]? = _
    rw [List.getElem?_set_ne (Ne.symm h.1), ih h.2]
theorem wipe_at {σ : L2.St} {vs : List Nat} {i : Nat} (h : i ∈ vs) : (L2.wipe σ vs)[i]? = if i < σ.length then some none else none := by
  induction vs with
  | nil => cases h
  | cons v vs ih =>
    show ((L2.wipe σ vs).set v none)[i]? = _
    by_cases hv : v = i
    · subst hv
      rw [List.getElem?_set]
      simp [L2.wipe_length]
    · rw [List.getElem?_set_ne hv]
      exact ih ((List.mem_cons.mp h).resolve_left (Ne.symm hv))
theorem wipe_same {σ σ' : L2.St} {vs ts : List Nat} (hl : σ'.length = σ.length) (h : ∀ j, j ∉ ts → σ'[j]? = σ[j]?) (hs : ∀ t ∈ ts, t ∈ vs) : L2.wipe σ' vs = L2.wipe σ vs := by
  apply List.ext_getElem?
  intro i
  by_cases hi : i ∈ vs
  · rw [wipe_at hi, wipe_at hi, hl]
  · rw [wipe_get hi, wipe_get hi, h i fun z => hi (hs i z)]
theorem wipe_wipe {σ : L2.St} {vs : List Nat} : L2.wipe (L2.wipe σ vs) vs = L2.wipe σ vs :=
  wipe_same (L2.wipe_length _ _) (fun j hj => wipe_get hj) fun _ h => h
theorem paired_app {α β : Type} {R : α → β → Prop} : ∀ {xs xs' : List α} {ys ys' : List β}, Paired R xs ys → Paired R xs' ys' → Paired R (xs ++ xs') (ys ++ ys')
  | _, _, _, _, .nil, h => h
  | _, _, _, _, .cons h1 t, h => .cons h1 (paired_app t h)
/-- the reading of a comprehension -/
theorem lc_read {up : ι → List Sl → List Sl} {S : ι → PyData → Prop} {t : ι → Bool} {g : TG} {ts vs : List Nat} {tt : TT} {wi : TI} (sok : SrcOk κ Γ wi g ts as up) (hts : ∀ i ∈ ts, i ∈ vs) (htt : ∀ a ∈ as, ∀ σ H Q, tT κ (up a (wipeG Γ vs)) (Is (t a)) σ H Q → tt σ H Q) :
    ∀ σ H Q, tN κ Γ (fun ys => Paired S (as.filter t) ys) σ H Q → tLc wi g tt (fun σ H Q => ∃ a, (a ∈ as ∧ t a = true) ∧ tD κ (up a (wipeG Γ vs)) (fun d => ∃ y, S a y ∧ d = .p y) σ H Q) vs σ H Q := by
  intro σ H Q ⟨H0, B, E, q⟩
  refine sok H0 B σ H E _ fun J B1 H1 x1 F D hD => ?_
  have hB1D : B1 D = none := x1.s.free hD
  have hHD : H D = none := x1.h.free hD
  refine ⟨fun i m H' => m = as.length - i ∧ i ≤ as.length ∧ ∃ B' acc ys, Ext B1 H1 B' H' ∧ B' D = none ∧ H' D = some (.lst acc) ∧ DpAll κ.K B' acc ys ∧ acc.length ≤ i ∧ Paired S ((as.take i).filter t) ys,
    ⟨as.length, rfl, Nat.zero_le _, B1, [], [], Ext.hid x1.s hD, hB1D, upd_same, .nil, Nat.le_refl _, .nil⟩, ?_⟩
  rintro i m H' ⟨rfl, hi', B', acc, ys, x2, hBD, hHD', hacc, hlen, hps⟩
  have x12 := x1.trans x2
  obtain ⟨hstop, hgo⟩ := F.2 B' H' x2.b x2.s
  by_cases hlt : i < as.length
  · obtain ⟨hg1, hy⟩ := hgo i as[i] (List.getElem?_eq_getElem hlt)
    refine .inr ⟨hg1, fun H4 => as.length - (i + 1) = as.length - (i + 1) ∧ i + 1 ≤ as.length ∧ ∃ B' acc ys, Ext B1 H1 B' H4 ∧ B' D = none ∧ H4 D = some (.lst acc) ∧ DpAll κ.K B' acc ys ∧ acc.length ≤ i + 1 ∧ Paired S ((as.take (i + 1)).filter t) ys,
      fun H4 h4 => ⟨as.length - (i + 1), by omega, h4⟩, fun v Hy y => ?_⟩
    refine hy v Hy y H0 _ _ ((E.ext x12).wipe vs) _ fun B2 H2 σ2 x3 ⟨sl, sk⟩ E2 => ⟨?_, ?_⟩
    · rw [wipe_same sl sk hts, wipe_wipe]
    · have hmem : as[i] ∈ as := List.getElem_mem hlt
      have hB2D : B2 D = none := x3.o D hBD (by rw [hHD']; simp)
      have hH2D := x3.h _ _ hHD'
      refine htt as[i] hmem σ2 H2 _ ⟨H0, B2, E2, fun b B3 H3 x4 hb => ?_⟩
      have hB3D : B3 D = none := x4.o D hB2D (by rw [hH2D]; simp)
      have hH3D := x4.h _ _ hH2D
      have hb : b = t as[i] := hb
      have et : (as.take (i + 1)).filter t = (as.take i).filter t ++ [as[i]].filter t := by rw [List.take_add_one, List.getElem?_eq_getElem hlt, List.filter_append]; rfl
      cases b with
      | false =>
        show (if false = true then _ else _)
        rw [if_neg (by decide)]
        refine ⟨rfl, hlt, B3, acc, ys, (x2.trans x3).trans x4, hB3D, hH3D, dpAll_mono (x3.b.trans x4.b) _ _ hacc, by omega, ?_⟩
        rw [et, List.filter_cons_of_neg (by rw [← hb]; decide), List.filter_nil, List.append_nil]
        exact hps
      | true =>
        show (if true = true then _ else _)
        rw [if_pos rfl]
        refine ⟨as[i], ⟨hmem, hb.symm⟩, H0, B3, E2.ext x4, fun z d B4 H4 x5 ⟨y, hS, hd⟩ r => ?_⟩
        subst hd
        have hB4D : B4 D = none := x5.o D hB3D (by rw [hH3D]; simp)
        have hH4D := x5.h _ _ hH3D
        have x14 := ((x2.trans x3).trans x4).trans x5
        refine ⟨acc, hH4D, by have := F.1; omega, rfl, hlt, B4, acc ++ [z], ys ++ [y], ⟨?_, x14.b, ?_, x14.o⟩, hB4D, upd_same, dpAll_app (dpAll_mono ((x3.b.trans x4.b).trans x5.b) _ _ hacc) (dpAll_one r), by rw [List.length_append]; simp; omega, ?_⟩
        · intro a u ha
          rw [upd_ne (ne_of_none ha hD)]
          exact x14.h a u ha
        · intro a u ha
          rw [upd_ne (ne_of_none ha hB4D)]
          exact x14.s a u ha
        · rw [et, List.filter_cons_of_pos (by rw [← hb]), List.filter_nil]
          exact paired_app hps (.cons hS .nil)
  · have hie : i = as.length := by omega
    subst hie
    refine .inl ⟨hstop, q D acc ys B' H' x12 ?_ hHD hBD hHD' hacc⟩
    rw [List.take_length] at hps
    exact hps
/-- [elt for target in iter if test]: what may come -/
theorem pn_lcS {up : ι → List Sl → List Sl} {S : ι → PyData → Prop} {t : ι → Bool} {g : TG} {ts : List Nat} {elt : Expr} {ifs : List Expr} {scope : Scope} {own : List (Str × Nat)} {tt : TT} (hc : X.calm = true) (hN : X.N.Nodup) (src : Src X tg iter Γ g ts as up) (ok : BlkOk X.N X.env.scope scope own)
    (hts : ∀ i ∈ ts, i ∈ own.map (·.2))
    (hg : ∀ (s : Shared) (H : Hp) (C : Addr) (cl : List (Str × Addr)) (fp : List Addr), PG (X.blk s H scope (compEnvC scope cl C X.env) fp) tg g)
    (ht : ∀ (s : Shared) (H : Hp) (C : Addr) (cl : List (Str × Addr)) (fp : List Addr), PTs (X.blk s H scope (compEnvC scope cl C X.env) fp) ifs tt)
    (htt : ∀ a ∈ as, ∀ σ H Q, tT (pwOf X) (up a (wipeG Γ (own.map (·.2)))) (Is (t a)) σ H Q → tt σ H Q)
    (he : ∀ a ∈ as, t a = true → ∀ (s : Shared) (H : Hp) (C : Addr) (cl : List (Str × Addr)) (fp : List Addr), PE (X.blk s H scope (compEnvC scope cl C X.env) fp) elt (tD (pwOf X) (up a (wipeG Γ (own.map (·.2)))) (fun d => ∃ y, S a y ∧ d = .p y)))
    (hs : ∀ x, foldedSetIterable iter X.env x = pure x := by intro _; rfl) :
    PE X (.ListComp elt [⟨tg, iter, ifs, 0⟩] scope pos) (tN (pwOf X) Γ (fun ys => Paired S (as.filter t) ys)) := by
  obtain ⟨wi, hi, sok⟩ := src.ex
  exact pe_mono (pe_lc (own := own) hc hN hi ok hg ht (fun s H C cl fp => pe_any (C := fun a => a ∈ as ∧ t a = true) fun a ha => he a ha.1 ha.2 s H C cl fp) hs) (lc_read sok hts htt)
theorem paired_map {f : ι → PyData} : ∀ {as : List ι} {ys : List PyData}, Paired (fun a y => y = f a) as ys → ys = as.map f
  | _, _, .nil => rfl
  | _, _, .cons h t => by rw [h, paired_map t]; rfl
/-- [elt for target in iter] -/
theorem pn_lc {up : ι → List Sl → List Sl} {f : ι → PyData} {g : TG} {ts : List Nat} {elt : Expr} {scope : Scope} {own : List (Str × Nat)} (hc : X.calm = true) (hN : X.N.Nodup) (src : Src X tg iter Γ g ts as up) (ok : BlkOk X.N X.env.scope scope own)
    (hts : ∀ i ∈ ts, i ∈ own.map (·.2))
    (hg : ∀ (s : Shared) (H : Hp) (C : Addr) (cl : List (Str × Addr)) (fp : List Addr), PG (X.blk s H scope (compEnvC scope cl C X.env) fp) tg g)
    (he : ∀ a ∈ as, ∀ (s : Shared) (H : Hp) (C : Addr) (cl : List (Str × Addr)) (fp : List Addr), PE (X.blk s H scope (compEnvC scope cl C X.env) fp) elt (tD (pwOf X) (up a (wipeG Γ (own.map (·.2)))) (IsP (f a))))
    (hs : ∀ x, foldedSetIterable iter X.env x = pure x := by intro _; rfl) :
    PE X (.ListComp elt [⟨tg, iter, [], 0⟩] scope pos) (tN (pwOf X) Γ (Is (as.map f))) := by
  refine pn_imp (pn_lcS (S := fun a y => y = f a) (t := fun _ => true) hc hN src ok hts hg (fun _ _ _ _ _ => pts_nil) (fun a _ σ H Q ⟨H0, B, E, q⟩ => q true B H (Ext.refl E.sub) rfl) (fun a ha _ s H C cl fp => pd_imp (he a ha s H C cl fp) fun d h => ⟨_, rfl, h⟩) hs) fun ys h => ?_
  rw [List.filter_eq_self.mpr (fun _ _ => rfl)] at h
  exact paired_map h
/-- .. with a test -/
theorem pn_lcT {up : ι → List Sl → List Sl} {f : ι → PyData} {t : ι → Bool} {g : TG} {ts : List Nat} {elt tst : Expr} {scope : Scope} {own : List (Str × Nat)} (hc : X.calm = true) (hN : X.N.Nodup) (src : Src X tg iter Γ g ts as up) (ok : BlkOk X.N X.env.scope scope own)
    (hts : ∀ i ∈ ts, i ∈ own.map (·.2))
    (hg : ∀ (s : Shared) (H : Hp) (C : Addr) (cl : List (Str × Addr)) (fp : List Addr), PG (X.blk s H scope (compEnvC scope cl C X.env) fp) tg g)
    (ht : ∀ a ∈ as, ∀ (s : Shared) (H : Hp) (C : Addr) (cl : List (Str × Addr)) (fp : List Addr), PT (X.blk s H scope (compEnvC scope cl C X.env) fp) tst (tT (pwOf X) (up a (wipeG Γ (own.map (·.2)))) (Is (t a))))
    (he : ∀ a ∈ as, t a = true → ∀ (s : Shared) (H : Hp) (C : Addr) (cl : List (Str × Addr)) (fp : List Addr), PE (X.blk s H scope (compEnvC scope cl C X.env) fp) elt (tD (pwOf X) (up a (wipeG Γ (own.map (·.2)))) (IsP (f a))))
    (hs : ∀ x, foldedSetIterable iter X.env x = pure x := by intro _; rfl) :
    PE X (.ListComp elt [⟨tg, iter, [tst], 0⟩] scope pos) (tN (pwOf X) Γ (Is ((as.filter t).map f))) := by
  have ht' : ∀ (s : Shared) (H : Hp) (C : Addr) (cl : List (Str × Addr)) (fp : List Addr), PT (X.blk s H scope (compEnvC scope cl C X.env) fp) tst (fun σ H Q => ∃ a, a ∈ as ∧ tT (pwOf X) (up a (wipeG Γ (own.map (·.2)))) (Is (t a)) σ H Q) :=
    fun s H C cl fp => ⟨fun pins s' σ H' Q I ⟨a, ha, q⟩ => (ht a ha s H C cl fp).run pins s' σ H' Q I q⟩
  exact pn_imp (pn_lcS (S := fun a y => y = f a) (t := t) hc hN src ok hts hg (fun s H C cl fp => pts_one (ht' s H C cl fp)) (fun a ha σ H Q q => ⟨a, ha, q⟩) (fun a ha h1 s H C cl fp => pd_imp (he a ha h1 s H C cl fp) fun d h => ⟨_, rfl, h⟩) hs) fun ys h => paired_map h
end
end K62
/-! defs, calls, statements -/
namespace K62
open PySem PySem.Spec PyProof.Rows L2

theorem Ext.here {B0 H0 B1 H1 : Hp} (x : Ext B0 H0 B1 H1) : Ext B1 H0 B1 H1 := ⟨x.h, Same.refl _, x.s, fun _ h _ => h⟩
theorem Ext.over {B0 H0 B1 H1 B' H' : Hp} (x : Ext B0 H0 B1 H1) (y : Ext B1 H0 B' H') : Ext B0 H0 B' H' := ⟨y.h, x.b.trans y.b, y.s, fun a h1 h2 => y.o a (x.o a h1 h2) h2⟩
/-! ### what a def does, called where no repr is running -/
structure FnG (P : Program) (w : World) (K : PySem.W.Frag) (mg : Str → Option Value) (base : Heap) (k : Nat) (f : Addr) (fd : FuncData) (ps : List Str) (sp : Sp) : Prop where
  len : ∀ vs H Q E, sp vs H Q E → vs.length = ps.length
  run : ∀ (A : Around) (outer : List PySem.Env) (s : Shared) (H : Hp) (args : Args) (us : List Value) (vs : List V) (Q : VK), A.guards = some [] → Room k A → Env0 P w K mg base A outer s H → BindsTo s fd args (ps.zip us) → Vals vs us → sp vs H Q E0 →
    codeAny (model P w) A (.call (.ref f) args) (CR CX0 outer P w H s Q E0) s
theorem FnG.mono {P : Program} {w : World} {K : PySem.W.Frag} {mg : Str → Option Value} {base : Heap} {j k : Nat} {f : Addr} {fd : FuncData} {ps : List Str} {sp : Sp} (F : FnG P w K mg base j f fd ps sp) (h : j ≤ k) : FnG P w K mg base k f fd ps sp :=
  ⟨F.len, fun A outer s H args us vs Q g r => F.run A outer s H args us vs Q g (r.mono h)⟩
/-- data in; data out, or a new list -/
abbrev Ph := List Dd → (Dd → Prop) → (List PyData → Prop) → Prop
def spG (κ : Pw) (φ : Ph) : Sp := fun vs H Q _ => ∃ B ds Rd Rn, Same B H ∧ RepAll κ B vs ds ∧ φ ds Rd Rn ∧ (∀ v d B' H', Ext B H B' H' → Rd d → Rep κ B' v d → Q v H') ∧
  ∀ a vs ds B' H', Ext B H B' H' → Rn ds → H a = none → B' a = none → H' a = some (.lst vs) → DpAll κ.K B' vs ds → Q (.ref a) H'
def Nd : Dd → Prop := fun _ => False
def Nn : List PyData → Prop := fun _ => False
abbrev Cxf (P : Program) (w : World) (K : PySem.W.Frag) (mg : Str → Option Value) (base : Heap) (N : List Str) (qual : Str) (sc : Scope) (f : Addr) (cdv : Value) (A : Around) (outer : List PySem.Env) (s : Shared) (H : Hp) : Cx := (cxOf CX0 P w K mg base N qual sc f cdv A outer s H E0).nox

/-- what is wanted behind a block -/
structure Po where
  nx : List Sl → Prop
  rd : Dd → Prop
  rn : List PyData → Prop
def tS (κ : Pw) (Γ : List Sl) (p : Po) : TS := fun D σ H => ∃ B0 H0 B, Ext B0 H0 B H ∧ Env κ H0 B H σ Γ ∧ (∀ Γ' σ' B' H', p.nx Γ' → Ext B0 H0 B' H' → Env κ H0 B' H' σ' Γ' → D.nx σ' H') ∧
  (∀ v d B' H', Ext B0 H0 B' H' → p.rd d → Rep κ B' v d → D.rt v H') ∧
  ∀ a vs ds B' H', Ext B0 H0 B' H' → p.rn ds → H0 a = none → B' a = none → H' a = some (.lst vs) → DpAll κ.K B' vs ds → D.rt (.ref a) H'
def startG (N : List Str) (ds : List Dd) : List Sl := ds.map Sl.d ++ List.replicate (N.length - ds.length) .any
theorem env_start {κ : Pw} {B H : Hp} {N : List Str} {vs : List V} {ds : List Dd} (e : Same B H) (r : RepAll κ B vs ds) : Env κ H B H (L2.start N vs) (startG N ds) := by
  have hl := paired_len r
  refine ⟨e, Same.refl _, by unfold L2.start startG; rw [List.length_append, List.length_append, List.length_map, List.length_map, List.length_replicate, List.length_replicate, hl], fun i s o h1 h2 => ?_, fun i j s t l _ h1 _ h3 _ _ _ => ?_⟩
  · unfold startG at h1
    unfold L2.start at h2
    have key : ∀ {vs : List V} {ds : List Dd}, RepAll κ B vs ds → ∀ (i : Nat) d o, (ds.map Sl.d)[i]? = some d → (vs.map some)[i]? = some o → SlOk κ H B H o d := by
      intro vs ds r
      induction r with
      | nil => intro i d o h; simp at h
      | cons h0 t ih =>
        intro i d o h1 h2
        cases i with
        | zero => simp at h1 h2; subst h1; subst h2; exact ⟨_, rfl, h0⟩
        | succ i => exact ih i d o (by simpa using h1) (by simpa using h2)
    by_cases hi : i < ds.length
    · rw [List.getElem?_append_left (by simpa using hi)] at h1
      rw [List.getElem?_append_left (by simpa [hl] using hi)] at h2
      exact key r i s o h1 h2
    · rw [List.getElem?_append_right (by simpa using hi), List.getElem?_replicate] at h1
      split at h1
      · cases h1; trivial
      · cases h1
  · unfold startG at h1
    by_cases hi : i < ds.length
    · rw [List.getElem?_append_left (by simpa using hi), List.getElem?_map] at h1
      obtain ⟨d, _, rfl⟩ := Option.map_eq_some_iff.mp h1
      cases h3
    · rw [List.getElem?_append_right (by simpa using hi), List.getElem?_replicate] at h1
      split at h1
      · cases h1; cases h3
      · cases h1

section
variable {P : Program} {w : World} {K : PySem.W.Frag} {mg : Str → Option Value} {base : Heap}
/-- A DEF, by its body -/
theorem fnG {φ : Ph} {x qual : Str} {st : Stmt} {f : Addr} {fd : FuncData} {N ps : List Str} {k : Nat} (F : Fun K x qual st f fd) (S : FnScope N ps (defScope st)) (len : ∀ ds Rd Rn, φ ds Rd Rn → ds.length = ps.length)
    (hbody : ∀ (cdv : Value) (A : Around) (outer : List PySem.Env) (s : Shared) (H : Hp), A.guards = some [] → Room k (A.deeper (envOfC qual (defScope st) s.heap.objs.size f cdv)) → ∀ ds Rd Rn, φ ds Rd Rn →
      PSs (Cxf P w K mg base N qual (defScope st) f cdv A outer s H) (defBody st) (tS ⟨P, w, K⟩ (startG N ds) ⟨fun _ => Rd (.p .none), Rd, Rn⟩)) : FnG P w K mg base (k + 1) f fd ps (spG ⟨P, w, K⟩ φ) := by
  obtain ⟨oc, od, kV, doc, pm, an, cdv, ct, osl, rfl, lk, hcd⟩ := F.ex
  have len' : ∀ vs H Q E, spG ⟨P, w, K⟩ φ vs H Q E → vs.length = ps.length := fun vs H Q E h => by
    obtain ⟨B, ds, Rd, Rn, _, r, h, _⟩ := h
    exact (paired_len r).trans (len ds Rd Rn h)
  refine ⟨len', fun A outer s H args us vs Q hG hr e0 hb r hsp => ?_⟩
  have hl := len' _ _ _ _ hsp
  obtain ⟨B, ds, Rd, Rn, hBH, hrep, hφ, q1, q2⟩ := hsp
  have keepB : ∀ b o, base.get? b = some o → s.heap.get? b = some o := fun b o e => (e0.bs b o e).1
  have KX : K.In s.heap := e0.mod.kin.keeps keepB
  have hkind : ∀ y ∈ ps.zip us, (defScope st).names.lookup y.1 = some .local ∨ ((defScope st).names.lookup y.1 = some .cell ∧ ((cellsFrom (s.heap.objs.size + 1) (defScope st).names []).lookup y.1).isSome = true) := by
    intro y hy
    rcases S.par y.1 (List.of_mem_zip hy).1 with q | q
    · exact .inl q
    · exact .inr ⟨q, PySem.W.cellsFrom_some _ _ _ (.inl q)⟩
  refine codeAny_call_function hr.depth (KX _ _ lk) rfl S.co S.gen rfl (PySem.W.codeRec_of KX hcd) (hb _ _ _ _ (wpAny_newFunctionEnv_cells S.kind hkind fun env he s1 x => ?_))
  subst he
  refine ⟨(e0.mod.nolimit.keeps keepB).keeps x.toInCall.keep, codeAny_func ?_⟩
  have body := (hbody cdv A outer s H hG (hr.deeper _) ds Rd Rn hφ).nox
  have I : Inv (cxOf CX0 P w K mg base N qual (defScope st) f cdv A outer s H E0) [] (L2.start N vs) H s1 := inv_start S hr.hd e0 hl r x
  refine wpAny_mono (body.run [] s1 (L2.start N vs) H { nx := fun _ H' => Q .non H', rt := Q } I ⟨B, H, B, Ext.refl hBH, env_start hBH hrep, fun _ _ B' H' h1 h2 _ => q1 .non (.p .none) B' H' h2 h1 Dp.non, q1, q2⟩) (fun fl s' hs => ?_) fun e s' hs => hs
  cases fl with
  | ret u =>
    obtain ⟨v, σ', H', J, rv, q⟩ := hs
    exact ⟨v, H', J.os, J.bare, J.base, J.hok, rv, q⟩
  | next =>
    obtain ⟨σ', H', J, q⟩ := hs
    exact ⟨.non, H', J.os, J.bare, J.base, J.hok, rfl, q⟩
  | brk => exact hs.choose_spec.choose_spec.2.elim
  | cont => exact hs.choose_spec.choose_spec.2.elim
end

/-! ### calls -/
section
variable {X : Cx} {k : Nat} {f : Addr} {fd : FuncData} {ps ks : List Str} {sp : Sp} {x : Str} {p pos : Pos} {e : Expr} {es : List Expr} {kws : List Keyword} {t tk : TA} {Γ : List Sl} {φ : Ph} {ds : List Dd} {Rd : Dd → Prop} {Rn : List PyData → Prop}
theorem run_g {pins : List (Addr × Obj)} {σ : L2.St} {H : Hp} {s : Shared} {Q : VK} {args : Args} {us : List Value} {vs : List V} (F : FnG X.prog X.w X.K X.mg X.base k f fd ps sp) (hG : X.A.guards = some []) (hr : Room k X.A) (hb : BindsTo s fd args (ps.zip us)) (I : Inv X pins σ H s) (r : Vals vs us) (h : sp vs H Q E0) :
    codeAny (model X.prog X.w) X.A (.call (.ref f) args) (fun r s' => match r with | .ok (.ret u) => EP X pins σ Q u s' | _ => False) s :=
  codeAny_mono (F.run X.A X.stack s H args us vs Q hG hr I.env0 hb r h) fun r s' hq => by
    cases r with
    | error e => exact hq.elim
    | ok fl => cases fl with
      | ret u => exact I.after hq
      | next => exact hq.elim
      | brk => exact hq.elim
      | cont => exact hq.elim
theorem call_g {pins : List (Addr × Obj)} {σ : L2.St} {H : Hp} {s : Shared} {Q : VK} {us ws as : List Value} {kwv : List (Str × Value)} {vs : List V} (F : FnG X.prog X.w X.K X.mg X.base k f fd ps sp) (hG : X.A.guards = some []) (hr : Room k X.A) (hb : BindsTo s fd ⟨as, kwv⟩ (ps.zip us)) (I : Inv X pins σ H s) (r : Vals vs us) (h : sp vs H Q E0) :
    wpAny (model X.prog X.w) X.A (call (.ref f) as kwv) (EP X pins σ Q) X.xe s :=
  wpAny_call (codeAny_mono (run_g F hG hr hb I r h) fun r s' hq => by
    cases r with
    | error e => exact hq.elim
    | ok fl => cases fl with
      | ret u => exact hq
      | next => exact hq.elim
      | brk => exact hq.elim
      | cont => exact hq.elim)
def tG (sp : Sp) (t : TA) : TE := fun σ H Q => t σ H fun vs H1 => sp vs H1 Q E0
theorem pe_g (F : FnG X.prog X.w X.K X.mg X.base k f fd ps sp) (hG : X.A.guards = some []) (hr : Room k X.A) (hg : Gl X x) (hm : X.mg x = some (.ref f)) (hk : PySem.W.keepIn X.K (.ref f) = true) (hb : Binds X.K fd ps []) (ha : PA X (e :: es) t) (hdb : (x == ("__debug__" : Str)) = false := by decide)
    (he : starEach (e :: es) X.env = (false, eval e X.env) :: starEach es X.env := by rfl) (hpl : (backTo pos (starEach es X.env)).any (·.1) = false := by rfl) : PE X (.Call (.Name x p) (e :: es) [] pos) (tG sp t) := by
  refine ⟨fun pins s σ H Q I h => wpAny_Call_Name_kw (ld_glob I hg hm (PySem.W.callWith_K (h₀ := X.base) I.ok.mod.kin hk (thn (ha.run pos pins s σ H _ I h) fun us s1 ⟨vs, H1, I1, r, q⟩ => ⟨I1.kIn, ?_⟩) he hpl) hdb)⟩
  have hl : us.length = ps.length := r.length.symm.trans (F.len _ _ _ _ q)
  have b := hb s1 us I1.kIn (by rw [List.append_nil]; exact hl)
  rw [List.append_nil] at b
  exact call_g (ws := []) F hG hr b I1 r q
/-- keywords alone; g puts the keywords' values in the parameters' order -/
structure KwB (K : PySem.W.Frag) (fd : FuncData) (ps ks : List Str) (g : {α : Type} → List α → List α) : Prop where
  to : ∀ (s : Shared) (ws : List Value), ws.length = ks.length → BindsTo s fd ⟨[], ks.zip ws⟩ (ps.zip (g ws))
  rel : ∀ {vs : List V} {us : List Value}, Vals vs us → Vals (g vs) (g us)
def tGk (n : Nat) (sp : Sp) (g : {α : Type} → List α → List α) (t : TA) : TE := fun σ H Q => t σ H fun vs H1 => vs.length = n ∧ sp (g vs) H1 Q E0
theorem pe_gk {g : {α : Type} → List α → List α} (F : FnG X.prog X.w X.K X.mg X.base k f fd ps sp) (hG : X.A.guards = some []) (hr : Room k X.A) (hg : Gl X x) (hm : X.mg x = some (.ref f)) (hk : PySem.W.keepIn X.K (.ref f) = true) (hb : KwB X.K fd ps ks g) (hkw : PK X kws tk)
    (hall : (backToKw pos (keywordEach kws X.env)).all (·.1.isSome) = true := by rfl) (hks : (backToKw pos (keywordEach kws X.env)).filterMap (·.1) = ks := by rfl) (hdb : (x == ("__debug__" : Str)) = false := by decide)
    (hpl : ((backTo pos (starEach [] X.env)).any (·.1) || (backToKw pos (keywordEach kws X.env)).any (·.1.isNone)) = false := by rfl) : PE X (.Call (.Name x p) [] kws pos) (tGk ks.length sp g tk) := by
  refine ⟨fun pins s σ H Q I h => wpAny_Call_Name_kw (ld_glob I hg hm (PySem.W.callWith_KW0 (h₀ := X.base) I.ok.mod.kin hk hall (thn (hkw.run pos pins s σ H _ I h) fun ws s1 ⟨zs, H1, I1, r, hn, q⟩ => ⟨I1.kIn, ?_⟩) hpl) hdb)⟩
  rw [hks]
  exact call_g (ws := ws) F hG hr (hb.to s1 ws (r.length.symm.trans hn)) I1 (hb.rel r) q
theorem pk_mono {t t' : TA} (h : PK X kws t) (m : ∀ σ H Q, t' σ H Q → t σ H Q) : PK X kws t' := ⟨fun p pins s σ H Q I q => h.run p pins s σ H Q I (m σ H Q q)⟩
theorem pks_nil {κ : Pw} : PK X [] (tA κ Γ (Is [])) := pk_mono pk_nil fun σ H Q ⟨H0, B, E, q⟩ => q [] [] B H (Ext.refl E.sub) rfl .nil
theorem pks_cons {κ : Pw} {nm : Option Str} {kpos : Pos} {d : Dd} {ds : List Dd} (ha : PE X e (tD κ Γ (Is d))) (hr : PK X kws (tA κ Γ (Is ds))) : PK X (⟨nm, e, kpos⟩ :: kws) (tA κ Γ (Is (d :: ds))) :=
  pk_mono (pk_cons ha hr) fun σ H Q ⟨H0, B, E, q⟩ => ⟨H0, B, E, fun v d' B1 H1 e1 s1 r1 => ⟨H0, B1, E.ext e1, fun vs ds' B2 H2 e2 s2 r2 => q (v :: vs) (d' :: ds') B2 H2 (e1.trans e2) (by cases s1; cases s2; rfl) (.cons (rep_mono e2.b r1) r2)⟩⟩
theorem spG_d {κ : Pw} (hφ : φ ds Rd Nn) {H0 B H B1 H1 : Hp} {Q : VK} {vs : List V} (e1 : Ext B H B1 H1) (r : RepAll κ B1 vs ds) (q : ∀ v d B' H', Ext B H B' H' → Rd d → Rep κ B' v d → Q v H') : spG κ φ vs H1 Q E0 :=
  ⟨B1, ds, Rd, Nn, e1.s, r, hφ, fun v d B2 H2 e2 s2 r2 => q v d B2 H2 (e1.trans e2) s2 r2, fun _ _ _ _ _ _ z => z.elim⟩
theorem spG_n {κ : Pw} (hφ : φ ds Nd Rn) {H0 B H B1 H1 : Hp} {Q : VK} {vs : List V} (e1 : Ext B H B1 H1) (r : RepAll κ B1 vs ds) (q : ∀ a vs ds B' H', Ext B H B' H' → Rn ds → H a = none → B' a = none → H' a = some (.lst vs) → DpAll κ.K B' vs ds → Q (.ref a) H') : spG κ φ vs H1 Q E0 :=
  ⟨B1, ds, Nd, Rn, e1.s, r, hφ, fun _ _ _ _ _ z => z.elim, fun a vs ds B2 H2 e2 s2 n1 n2 h h' => q a vs ds B2 H2 (e1.trans e2) s2 (e1.h.free n1) n2 h h'⟩
/-- a def of the text as it is called -/
structure Callee (X : Cx) (k : Nat) (x : Str) (ps : List Str) (φ : Ph) where
  f : Addr
  fd : FuncData
  F : FnG X.prog X.w X.K X.mg X.base k f fd ps (spG (pwOf X) φ)
  m : X.mg x = some (.ref f)
  kp : PySem.W.keepIn X.K (.ref f) = true
  b : Binds X.K fd ps []
theorem pd_call (C : Callee X k x ps φ) (hφ : φ ds Rd Nn) (hG : X.A.guards = some []) (hr : Room k X.A) (hg : Gl X x) (ha : PA X (e :: es) (tA (pwOf X) Γ (Is ds))) (hdb : (x == ("__debug__" : Str)) = false := by decide)
    (he : starEach (e :: es) X.env = (false, eval e X.env) :: starEach es X.env := by rfl) (hpl : (backTo pos (starEach es X.env)).any (·.1) = false := by rfl) : PE X (.Call (.Name x p) (e :: es) [] pos) (tD (pwOf X) Γ Rd) :=
  pe_mono (pe_g C.F hG hr hg C.m C.kp C.b ha hdb he hpl) fun σ H Q ⟨H0, B, E, q⟩ => ⟨H0, B, E, fun vs ds' B1 H1 e1 s1 r => by
    cases s1
    exact spG_d (H0 := H0) hφ e1 r q⟩
/-- .. of arguments that are not told exactly -/
theorem pd_callS {T : List Dd → Prop} (C : Callee X k x ps φ) (hφ : ∀ ds, T ds → φ ds Rd Nn) (hG : X.A.guards = some []) (hr : Room k X.A) (hg : Gl X x) (ha : PA X (e :: es) (tA (pwOf X) Γ T)) (hdb : (x == ("__debug__" : Str)) = false := by decide)
    (he : starEach (e :: es) X.env = (false, eval e X.env) :: starEach es X.env := by rfl) (hpl : (backTo pos (starEach es X.env)).any (·.1) = false := by rfl) : PE X (.Call (.Name x p) (e :: es) [] pos) (tD (pwOf X) Γ Rd) :=
  pe_mono (pe_g C.F hG hr hg C.m C.kp C.b ha hdb he hpl) fun σ H Q ⟨H0, B, E, q⟩ => ⟨H0, B, E, fun vs ds' B1 H1 e1 s1 r => spG_d (H0 := H0) (hφ ds' s1) e1 r q⟩
theorem pn_call (C : Callee X k x ps φ) (hφ : φ ds Nd Rn) (hG : X.A.guards = some []) (hr : Room k X.A) (hg : Gl X x) (ha : PA X (e :: es) (tA (pwOf X) Γ (Is ds))) (hdb : (x == ("__debug__" : Str)) = false := by decide)
    (he : starEach (e :: es) X.env = (false, eval e X.env) :: starEach es X.env := by rfl) (hpl : (backTo pos (starEach es X.env)).any (·.1) = false := by rfl) : PE X (.Call (.Name x p) (e :: es) [] pos) (tN (pwOf X) Γ Rn) :=
  pe_mono (pe_g C.F hG hr hg C.m C.kp C.b ha hdb he hpl) fun σ H Q ⟨H0, B, E, q⟩ => ⟨H0, B, E, fun vs ds' B1 H1 e1 s1 r => by
    cases s1
    exact spG_n (H0 := H0) hφ e1 r q⟩
theorem repAll_len {κ : Pw} {B : Hp} {vs : List V} {ds : List Dd} (r : RepAll κ B vs ds) : vs.length = ds.length := paired_len r
theorem pd_callk {g : {α : Type} → List α → List α} {es' : List Dd} (C : Callee X k x ps φ) (hb : KwB X.K C.fd ps ks g) (hgr : ∀ {κ : Pw} {B : Hp} {vs : List V}, RepAll κ B vs es' → RepAll κ B (g vs) (g es')) (hn : es'.length = ks.length) (hφ : φ (g es') Rd Nn) (hG : X.A.guards = some []) (hr : Room k X.A) (hg : Gl X x) (hkw : PK X kws (tA (pwOf X) Γ (Is es')))
    (hall : (backToKw pos (keywordEach kws X.env)).all (·.1.isSome) = true := by rfl) (hks : (backToKw pos (keywordEach kws X.env)).filterMap (·.1) = ks := by rfl) (hdb : (x == ("__debug__" : Str)) = false := by decide)
    (hpl : ((backTo pos (starEach [] X.env)).any (·.1) || (backToKw pos (keywordEach kws X.env)).any (·.1.isNone)) = false := by rfl) : PE X (.Call (.Name x p) [] kws pos) (tD (pwOf X) Γ Rd) :=
  pe_mono (pe_gk C.F hG hr hg C.m C.kp hb hkw hall hks hdb hpl) fun σ H Q ⟨H0, B, E, q⟩ => ⟨H0, B, E, fun vs ds' B1 H1 e1 s1 r => by
    cases s1
    exact ⟨(repAll_len r).trans hn, spG_d (H0 := H0) hφ e1 (hgr r) q⟩⟩
theorem pn_callk {g : {α : Type} → List α → List α} {es' : List Dd} (C : Callee X k x ps φ) (hb : KwB X.K C.fd ps ks g) (hgr : ∀ {κ : Pw} {B : Hp} {vs : List V}, RepAll κ B vs es' → RepAll κ B (g vs) (g es')) (hn : es'.length = ks.length) (hφ : φ (g es') Nd Rn) (hG : X.A.guards = some []) (hr : Room k X.A) (hg : Gl X x) (hkw : PK X kws (tA (pwOf X) Γ (Is es')))
    (hall : (backToKw pos (keywordEach kws X.env)).all (·.1.isSome) = true := by rfl) (hks : (backToKw pos (keywordEach kws X.env)).filterMap (·.1) = ks := by rfl) (hdb : (x == ("__debug__" : Str)) = false := by decide)
    (hpl : ((backTo pos (starEach [] X.env)).any (·.1) || (backToKw pos (keywordEach kws X.env)).any (·.1.isNone)) = false := by rfl) : PE X (.Call (.Name x p) [] kws pos) (tN (pwOf X) Γ Rn) :=
  pe_mono (pe_gk C.F hG hr hg C.m C.kp hb hkw hall hks hdb hpl) fun σ H Q ⟨H0, B, E, q⟩ => ⟨H0, B, E, fun vs ds' B1 H1 e1 s1 r => by
    cases s1
    exact ⟨(repAll_len r).trans hn, spG_n (H0 := H0) hφ e1 (hgr r) q⟩⟩
end

/-! ### blocks -/
/-- a value for a slot -/
def tV (κ : Pw) (Γ : List Sl) (S : Sl → Prop) : TE := fun σ H Q => ∃ H0 B, Env κ H0 B H σ Γ ∧ ∀ v s B' H', Ext B H B' H' → S s → SlOk κ H0 B' H' (some v) s → (s.isOwn = true → ∀ l, v = .ref l → H l = none) → Q v H'
section
variable {X : Cx} {e a b c : Expr} {rest body els : List Stmt} {st : Stmt} {pos p1 : Pos} {Γ : List Sl} {κ : Pw} {p : Po} {x y z : Str}
theorem pv_d {S : Dd → Prop} (h : PE X e (tD κ Γ S)) : PE X e (tV κ Γ (fun s => ∃ d, S d ∧ s = .d d)) := pe_mono h fun σ H Q ⟨H0, B, E, q⟩ => ⟨H0, B, E, fun v d B' H' x s r => q v (.d d) B' H' x ⟨d, s, rfl⟩ ⟨v, rfl, r⟩ fun z => by cases z⟩
theorem pv_n {T : List PyData → Prop} (h : PE X e (tN κ Γ T)) : PE X e (tV κ Γ (fun s => ∃ xs, T xs ∧ s = .own xs)) := pe_mono h fun σ H Q ⟨H0, B, E, q⟩ => ⟨H0, B, E, fun a vs ds B' H' x s n1 n2 h1 h2 => q _ (.own ds) B' H' x ⟨ds, s, rfl⟩ ⟨a, vs, rfl, E.h0.free n1, n2, h1, h2⟩ fun _ l el => by cases el; exact n1⟩
theorem pss_mono {t t' : TS} (h : PSs X rest t) (m : ∀ D σ H, t' D σ H → t D σ H) : PSs X rest t' := ⟨fun pins s σ H D I q => h.run pins s σ H D I (m D σ H q)⟩
theorem psf_mono {t t' : TS} (h : PS X st t) (m : ∀ D σ H, t' D σ H → t D σ H) : PS X st t' := ⟨fun pins s σ H D I q => h.run pins s σ H D I (m D σ H q)⟩
/-- blocks of a family -/
theorem pss_any {C : List Sl → Prop} {t : List Sl → TS} (h : ∀ i, C i → PSs X rest (t i)) : PSs X rest (fun D σ H => ∃ i, C i ∧ t i D σ H) := ⟨fun pins s σ H D I ⟨i, c, q⟩ => (h i c).run pins s σ H D I q⟩
/-- one statement, then the rest -/
theorem ss_then {t : TS} {C : List Sl → Prop} (h1 : PS X st t) (h2 : ∀ Γ', C Γ' → PSs X rest (tS κ Γ' p)) (m : ∀ D σ H, tS κ Γ { p with nx := C } D σ H → t D σ H) : PSs X (st :: rest) (tS κ Γ p) :=
  pss_mono (pss_cons h1 (pss_any h2)) fun D σ H ⟨B0, H0, B, x0, E, q1, q2, q3⟩ => m _ σ H ⟨B0, H0, B, x0, E, fun Γ' σ' B' H' c x' E' => ⟨Γ', c, B0, H0, B', x', E', q1, q2, q3⟩, q2, q3⟩
theorem ss_nil (h : p.nx Γ) : PSs X [] (tS κ Γ p) := pss_mono pss_nil fun D σ H ⟨B0, H0, B, x0, E, q1, q2, q3⟩ => q1 Γ σ B H h x0 E
theorem env_own_new {H0 B H B' H' : Hp} {σ : L2.St} {v : V} {s : Sl} (E : Env κ H0 B H σ Γ) (hv : s.isOwn = true → ∀ l, v = .ref l → H l = none) (i : Nat) : s.isOwn = true → ∀ j l, j ≠ i → v = .ref l → σ[j]? = some (some (.ref l)) → ∀ t, Γ[j]? = some t → t.isOwn = false := by
  intro ho j l _ hvl hj t ht
  cases t with
  | any => rfl
  | d _ => rfl
  | own xs =>
    obtain ⟨l', vs, e1, _, _, e4, _⟩ := E.own ht
    rw [hj] at e1; cases e1
    rw [hv ho l hvl] at e4; cases e4
  | owd xs =>
    obtain ⟨l', vs, e1, _, _, e4, _⟩ := E.owd ht
    rw [hj] at e1; cases e1
    rw [hv ho l hvl] at e4; cases e4
/-- x = e -/
theorem ss_setV (i : Nat) {S : Sl → Prop} (he : PE X e (tV κ Γ S)) (hr : ∀ s, S s → PSs X rest (tS κ (Γ.set i s) p)) (hN : X.N.Nodup) (hi : X.N[i]? = some x := by rfl) (hx : Loc X.env.scope x := by first | exact Or.inl rfl | exact Or.inr rfl) (hs : swapsWith e (some (.Name x p1)) pos.line X.env = pure false := by rfl) (hf : X.fn x = true := by rfl) :
    PSs X (.Assign [.Name x p1] e pos :: rest) (tS κ Γ p) :=
  ss_then (C := fun Γ' => ∃ s, S s ∧ Γ' = Γ.set i s) (ps_set (i := i) hN hi hx he hs (.inl hf)) (fun Γ' ⟨s, hs, e⟩ => e ▸ hr s hs) fun D σ H ⟨B0, H0, B, x0, E, q1, q2, q3⟩ => ⟨H0, B, E, fun v s B' H' x1 hs ok hv =>
    q1 _ _ B' H' ⟨s, hs, rfl⟩ (x0.trans x1) ((E.ext x1).set ok (env_own_new (B' := B') (H' := H') E hv i))⟩
theorem ss_setS (i : Nat) {S : Dd → Prop} (he : PE X e (tD κ Γ S)) (hr : ∀ d, S d → PSs X rest (tS κ (Γ.set i (.d d)) p)) (hN : X.N.Nodup) (hi : X.N[i]? = some x := by rfl) (hx : Loc X.env.scope x := by first | exact Or.inl rfl | exact Or.inr rfl) (hs : swapsWith e (some (.Name x p1)) pos.line X.env = pure false := by rfl) (hf : X.fn x = true := by rfl) :
    PSs X (.Assign [.Name x p1] e pos :: rest) (tS κ Γ p) := ss_setV i (pv_d he) (fun s ⟨d, h, e⟩ => e ▸ hr d h) hN hi hx hs hf
theorem ss_set (i : Nat) {d : Dd} (he : PE X e (tD κ Γ (Is d))) (hr : PSs X rest (tS κ (Γ.set i (.d d)) p)) (hN : X.N.Nodup) (hi : X.N[i]? = some x := by rfl) (hx : Loc X.env.scope x := by first | exact Or.inl rfl | exact Or.inr rfl) (hs : swapsWith e (some (.Name x p1)) pos.line X.env = pure false := by rfl) (hf : X.fn x = true := by rfl) :
    PSs X (.Assign [.Name x p1] e pos :: rest) (tS κ Γ p) := ss_setS i he (fun d' h => by cases h; exact hr) hN hi hx hs hf
/-- x = a new list -/
theorem ss_setN (i : Nat) {T : List PyData → Prop} (he : PE X e (tN κ Γ T)) (hr : ∀ xs, T xs → PSs X rest (tS κ (Γ.set i (.own xs)) p)) (hN : X.N.Nodup) (hi : X.N[i]? = some x := by rfl) (hx : Loc X.env.scope x := by first | exact Or.inl rfl | exact Or.inr rfl) (hs : swapsWith e (some (.Name x p1)) pos.line X.env = pure false := by rfl) (hf : X.fn x = true := by rfl) :
    PSs X (.Assign [.Name x p1] e pos :: rest) (tS κ Γ p) := ss_setV i (pv_n he) (fun s ⟨d, h, e⟩ => e ▸ hr d h) hN hi hx hs hf
/-- return e -/
theorem ss_ret {S : Dd → Prop} (he : PE X e (tD κ Γ S)) (hr : ∀ d, S d → p.rd d) : PSs X (.Return (some e) pos :: rest) (tS κ Γ p) :=
  ss_then (C := fun _ => False) (ps_ret he) (fun _ z => z.elim) fun D σ H ⟨B0, H0, B, x0, E, q1, q2, q3⟩ => ⟨H0, B, E, fun v d B' H' x1 s r => q2 v d B' H' (x0.trans x1) (hr d s) r⟩
theorem ss_retN {T : List PyData → Prop} (he : PE X e (tN κ Γ T)) (hr : ∀ d, T d → p.rn d) : PSs X (.Return (some e) pos :: rest) (tS κ Γ p) :=
  ss_then (C := fun _ => False) (ps_ret he) (fun _ z => z.elim) fun D σ H ⟨B0, H0, B, x0, E, q1, q2, q3⟩ => ⟨H0, B, E, fun a vs ds B' H' x1 s n1 n2 h1 h2 => q3 a vs ds B' H' (x0.trans x1) (hr ds s) (E.h0.free n1) n2 h1 h2⟩
/-- return x, x a list of the def's own -/
theorem ss_retO (i : Nat) {xs : List PyData} (hr : p.rn xs) (hd : Γ[i]? = some (.own xs) := by rfl) (hN : X.N[i]? = some x := by rfl) (hv : Vis X.env.scope x := by first | exact Or.inl rfl | exact Or.inr (Or.inl rfl) | exact Or.inr (Or.inr rfl)) (h1 : (x == ("__debug__" : Str)) = false := by decide)
    (h2 : (x == ("__classdict__" : Str)) = false := by decide) : PSs X (.Return (some (.Name x p1)) pos :: rest) (tS κ Γ p) :=
  ss_then (C := fun _ => False) (ps_ret (pe_var hN hv h1 h2)) (fun _ z => z.elim) fun D σ H ⟨B0, H0, B, x0, E, q1, q2, q3⟩ => by
    obtain ⟨l, vs, e, a1, a2, a3, a4⟩ := E.own hd
    exact ⟨_, e, q3 l vs xs B H x0 hr a1 a2 a3 a4⟩
/-- if -/
theorem ss_if {T : Bool → Prop} {C : List Sl → Prop} (hc : PT X c (tT κ Γ T)) (h1 : T true → PSs X body (tS κ Γ { p with nx := C })) (h2 : T false → PSs X els (tS κ Γ { p with nx := C })) (hr : ∀ Γ', C Γ' → PSs X rest (tS κ Γ' p)) : PSs X (.If c body els pos :: rest) (tS κ Γ p) := by
  have h1' : PSs X body (fun D σ H => T true ∧ tS κ Γ { p with nx := C } D σ H) := ⟨fun pins s σ H D I ⟨t, q⟩ => (h1 t).run pins s σ H D I q⟩
  have h2' : PSs X els (fun D σ H => T false ∧ tS κ Γ { p with nx := C } D σ H) := ⟨fun pins s σ H D I ⟨t, q⟩ => (h2 t).run pins s σ H D I q⟩
  refine ss_then (ps_if hc h1' h2') hr fun D σ H ⟨B0, H0, B, x0, E, q1, q2, q3⟩ => ⟨H0, B, E, fun b B' H' x1 t => ?_⟩
  cases b with
  | true =>
    show (if true = true then _ else _)
    rw [if_pos rfl]
    exact ⟨t, B0, H0, B', x0.trans x1, E.ext x1, q1, q2, q3⟩
  | false =>
    show (if false = true then _ else _)
    rw [if_neg (by decide)]
    exact ⟨t, B0, H0, B', x0.trans x1, E.ext x1, q1, q2, q3⟩
/-- if c: (leaves); then the rest, c being false -/
theorem ss_ifr {b : Bool} (hc : PT X c (tT κ Γ (Is b))) (h1 : b = true → PSs X body (tS κ Γ { p with nx := fun _ => False })) (hr : b = false → PSs X rest (tS κ Γ p)) : PSs X (.If c body [] pos :: rest) (tS κ Γ p) := by
  cases b with
  | true => exact ss_if (C := fun _ => False) hc (fun _ => h1 rfl) (fun t => by cases t) (fun _ z => z.elim)
  | false => exact ss_if (C := Is Γ) hc (fun t => by cases t) (fun _ => ss_nil rfl) (fun Γ' z => by cases z; exact hr rfl)
theorem ss_never (h : False) : PSs X rest (tS κ Γ p) := h.elim
/-- the own list in the slot i becomes data -/
theorem ss_freeze (i : Nat) {xs : List PyData} (hr : PSs X rest (tS κ (Γ.set i (.d (.p (.list xs)))) p)) (hd : Γ[i]? = some (.own xs) := by rfl) : PSs X rest (tS κ Γ p) :=
  pss_mono hr fun D σ H ⟨B0, H0, B, x0, E, q1, q2, q3⟩ => by
    obtain ⟨l, vs, e, a1, a2, a3, a4⟩ := E.own hd
    have x1 : Ext B0 H0 (upd B l (.lst vs)) H := x0.show_ a1 a2 a3
    have hi : i < σ.length := by
      rw [E.len]
      exact (List.getElem?_eq_some_iff.mp hd).1
    have es : σ = σ.set i (some (.ref l)) := by
      apply List.ext_getElem?
      intro j
      by_cases hj : j = i
      · subst hj; rw [e, List.getElem?_set_self hi]
      · rw [List.getElem?_set_ne (Ne.symm hj)]
    have bb : Same B (upd B l (.lst vs)) := same_new a2
    have E1 : Env κ H0 (upd B l (.lst vs)) H σ (Γ.set i (.d (.p (.list xs)))) := by
      refine ⟨x1.s, E.h0, by rw [List.length_set]; exact E.len, fun j t o h1 h2 => ?_, fun j k t u l' hjk h1 h2 h3 h4 h5 h6 => ?_⟩
      · by_cases hj : j = i
        · subst hj
          rw [List.getElem?_set_self (by rw [← E.len]; exact hi)] at h1
          cases h1
          rw [e] at h2; cases h2
          exact ⟨_, rfl, Dp.lst (.of upd_same) (dpAll_mono bb _ _ a4)⟩
        · rw [List.getElem?_set_ne (Ne.symm hj)] at h1
          have z := E.ok j t o h1 h2
          have ne : ∀ l', σ[j]? = some (some (.ref l')) → t.isOwn = true → l' ≠ l := fun l' e' ho ee => E.sep j i t _ l hj h1 hd ho rfl (by rw [← ee]; exact e') e
          cases t with
          | any => trivial
          | d d => obtain ⟨v, e1, e2⟩ := z; exact ⟨v, e1, rep_mono bb e2⟩
          | own ys =>
            obtain ⟨l', us, e1, e2, e3, e4, e5⟩ := z
            exact ⟨l', us, e1, e2, by rw [upd_ne (ne l' (by rw [h2, e1]) rfl)]; exact e3, e4, dpAll_mono bb _ _ e5⟩
          | owd ys =>
            obtain ⟨l', us, e1, e2, e3, e4, e5⟩ := z
            exact ⟨l', us, e1, e2, by rw [upd_ne (ne l' (by rw [h2, e1]) rfl)]; exact e3, e4, ent_mono bb e5⟩
      · have conv : ∀ {j : Nat} {s : Sl}, (Γ.set i (.d (.p (.list xs))))[j]? = some s → s.isOwn = true → Γ[j]? = some s := fun {j s} q r => by
          by_cases hj : j = i
          · subst hj
            rw [List.getElem?_set_self (by rw [← E.len]; exact hi)] at q
            cases q; cases r
          · rw [List.getElem?_set_ne (Ne.symm hj)] at q; exact q
        exact E.sep j k t u l' hjk (conv h1 h3) (conv h2 h4) h3 h4 h5 h6
    exact ⟨B0, H0, _, x1, E1, q1, q2, q3⟩
/-- less is known of slots -/
theorem ss_any (i : Nat) (hr : PSs X rest (tS κ (Γ.set i .any) p)) : PSs X rest (tS κ Γ p) :=
  pss_mono hr fun D σ H ⟨B0, H0, B, x0, E, q1, q2, q3⟩ => by
    refine ⟨B0, H0, B, x0, ⟨E.sub, E.h0, by rw [List.length_set]; exact E.len, fun j t o h1 h2 => ?_, fun j k t u l' hjk h1 h2 h3 h4 h5 h6 => ?_⟩, q1, q2, q3⟩
    · by_cases hj : j = i
      · subst hj
        have hl : j < Γ.length := by
          have := (List.getElem?_eq_some_iff.mp h1).1
          rwa [List.length_set] at this
        rw [List.getElem?_set_self hl] at h1
        cases h1
        trivial
      · rw [List.getElem?_set_ne (Ne.symm hj)] at h1
        exact E.ok j t o h1 h2
    · have conv : ∀ {j : Nat} {s : Sl}, (Γ.set i .any)[j]? = some s → s.isOwn = true → Γ[j]? = some s := fun {j s} q r => by
        by_cases hj : j = i
        · subst hj
          have hl : j < Γ.length := by
            have := (List.getElem?_eq_some_iff.mp q).1
            rwa [List.length_set] at this
          rw [List.getElem?_set_self hl] at q
          cases q; cases r
        · rw [List.getElem?_set_ne (Ne.symm hj)] at q; exact q
      exact E.sep j k t u l' hjk (conv h1 h3) (conv h2 h4) h3 h4 h5 h6
/-- x.append(e) -/
theorem ss_append (i : Nat) {xs : List PyData} {T : PyData → Prop} {apos cpos : Pos} (he : PE X e (tD κ Γ (fun d => ∃ y, T y ∧ d = .p y))) (hl : xs.length ≤ 1000000) (hr : ∀ y, T y → PSs X rest (tS κ (Γ.set i (.own (xs ++ [y]))) p)) (hκ : κ.K = X.K := by rfl) (hd : Γ[i]? = some (.own xs) := by rfl) (hN : X.N[i]? = some x := by rfl)
    (hv : Vis X.env.scope x := by first | exact Or.inl rfl | exact Or.inr (Or.inl rfl) | exact Or.inr (Or.inr rfl)) (h1 : (x == ("__debug__" : Str)) = false := by decide) (h2 : (x == ("__classdict__" : Str)) = false := by decide)
    (hbase : attributeBase (.Name x p1) "append" X.env (eval (.Name x p1) X.env) = eval (.Name x p1) X.env := by rfl)
    (hfew : ((backTo cpos (starEach [e] X.env)).all (fun x => !x.1) && (backToKw cpos (keywordEach [] X.env)).all (fun x => x.1.isSome)
      && decide (([e] : List Expr).length + ([] : List Keyword).length + (if ([] : List Keyword).isEmpty then 0 else 1) < 30)) = true := by rfl)
    (hline : (apos.endLine == cpos.line) = true := by rfl) (hs : starEach [e] X.env = (false, eval e X.env) :: starEach [] X.env := by rfl) (hplain : (backTo cpos (starEach [] X.env)).any (·.1) = false := by rfl)
    (hsw : swapsWith (.Call (.Attribute (.Name x p1) "append" apos) [e] [] cpos) none pos.line X.env = pure false := by rfl) :
    PSs X (.Expr (.Call (.Attribute (.Name x p1) "append" apos) [e] [] cpos) pos :: rest) (tS κ Γ p) := by
  refine ss_then (C := fun Γ' => ∃ y, T y ∧ Γ' = Γ.set i (.own (xs ++ [y]))) (ps_expr (pe_bm PySem.F.plainAttrs_list PySem.F.slot_list_append PySem.F.type_list_append mt_append (pe_var hN hv h1 h2) (pa_cons he pa_nil hs) hbase hfew hline hs hplain) hsw)
    (fun Γ' ⟨y, t, e⟩ => e ▸ hr y t) fun D σ H ⟨B0, H0, B, x0, E, q1, q2, q3⟩ => ?_
  obtain ⟨l, vs, e, a1, a2, a3, a4⟩ := E.own hd
  refine ⟨_, e, .inl ⟨rfl, vs, .of a3⟩, H0, B, E, fun v d B' H' x1 ⟨y, t, ed⟩ r => ?_⟩
  subst ed
  have b2 := x1.o l a2 (by rw [a3]; simp)
  refine ⟨l, vs, v, rfl, rfl, x1.h _ _ a3, by rw [dpAll_len a4, sizeLine_eq]; omega, ?_⟩
  exact q1 _ σ B' _ ⟨y, t, rfl⟩ ((x0.trans x1).mut a1 b2) ((E.ext x1).mut hd e a1 b2 (dpAll_app (dpAll_mono x1.b _ _ a4) (dpAll_one r)))
/-- x.extend(a new list) -/
theorem ss_extend (i : Nat) {xs : List PyData} {T : List PyData → Prop} {apos cpos : Pos} (he : PE X e (tN κ Γ T)) (hl : ∀ ys, T ys → xs.length + ys.length ≤ 1000000) (hr : ∀ ys, T ys → PSs X rest (tS κ (Γ.set i (.own (xs ++ ys))) p)) (hd : Γ[i]? = some (.own xs) := by rfl) (hN : X.N[i]? = some x := by rfl)
    (hv : Vis X.env.scope x := by first | exact Or.inl rfl | exact Or.inr (Or.inl rfl) | exact Or.inr (Or.inr rfl)) (h1 : (x == ("__debug__" : Str)) = false := by decide) (h2 : (x == ("__classdict__" : Str)) = false := by decide)
    (hbase : attributeBase (.Name x p1) "extend" X.env (eval (.Name x p1) X.env) = eval (.Name x p1) X.env := by rfl)
    (hfew : ((backTo cpos (starEach [e] X.env)).all (fun x => !x.1) && (backToKw cpos (keywordEach [] X.env)).all (fun x => x.1.isSome)
      && decide (([e] : List Expr).length + ([] : List Keyword).length + (if ([] : List Keyword).isEmpty then 0 else 1) < 30)) = true := by rfl)
    (hline : (apos.endLine == cpos.line) = true := by rfl) (hs : starEach [e] X.env = (false, eval e X.env) :: starEach [] X.env := by rfl) (hplain : (backTo cpos (starEach [] X.env)).any (·.1) = false := by rfl)
    (hsw : swapsWith (.Call (.Attribute (.Name x p1) "extend" apos) [e] [] cpos) none pos.line X.env = pure false := by rfl) :
    PSs X (.Expr (.Call (.Attribute (.Name x p1) "extend" apos) [e] [] cpos) pos :: rest) (tS κ Γ p) := by
  refine ss_then (C := fun Γ' => ∃ ys, T ys ∧ Γ' = Γ.set i (.own (xs ++ ys))) (ps_expr (pe_bm PySem.F.plainAttrs_list PySem.F.slot_list_extend PySem.F.type_list_extend mt_extend (pe_var hN hv h1 h2) (pa_cons he pa_nil hs) hbase hfew hline hs hplain) hsw)
    (fun Γ' ⟨y, t, e⟩ => e ▸ hr y t) fun D σ H ⟨B0, H0, B, x0, E, q1, q2, q3⟩ => ?_
  obtain ⟨l, vs, e, a1, a2, a3, a4⟩ := E.own hd
  refine ⟨_, e, .inl ⟨rfl, vs, .of a3⟩, H0, B, E, fun a us ys B' H' x1 t n1 n2 h3 h4 => ?_⟩
  have b2 := x1.o l a2 (by rw [a3]; simp)
  have z := hl ys t
  refine ⟨l, a, vs, us, rfl, rfl, x1.h _ _ a3, h3, by rw [dpAll_len a4, dpAll_len h4, sizeLine_eq]; omega, ?_⟩
  exact q1 _ σ B' _ ⟨ys, t, rfl⟩ ((x0.trans x1).mut a1 b2) ((E.ext x1).mut hd e a1 b2 (dpAll_app (dpAll_mono x1.b _ _ a4) h4))
/-- for .. in ..: I holds between the turns -/
theorem ss_for {ι : Type} {as : List ι} {up : ι → List Sl → List Sl} {g : TG} {ts : List Nat} {tg iter : Expr} (I : Nat → List Sl → Prop) (hc : X.calm = true) (hp : PassesOwn (model X.prog X.w) X.A X.env X.xe) (src : Src X tg iter Γ g ts as up) (hg : PG X tg g) (h0 : I 0 Γ)
    (hb : ∀ i a Γ', as[i]? = some a → I i Γ' → PSs X body (tS (pwOf X) (up a Γ') { p with nx := I (i + 1) })) (hr : ∀ Γ', I as.length Γ' → PSs X rest (tS (pwOf X) Γ' p))
    (hs : ∀ x, foldedSetIterable iter X.env x = pure x := by intro _; rfl) : PSs X (.For tg iter body [] pos :: rest) (tS (pwOf X) Γ p) := by
  obtain ⟨wi, hi, sok⟩ := src.ex
  have hb' : PSs X body (fun D σ H => ∃ i a Γ', as[i]? = some a ∧ I i Γ' ∧ tS (pwOf X) (up a Γ') { p with nx := I (i + 1) } D σ H) := ⟨fun pins s σ H D J ⟨i, a, Γ', h1, h2, q⟩ => (hb i a Γ' h1 h2).run pins s σ H D J q⟩
  refine ss_then (C := I as.length) (ps_for hp hc hi hg hb' hs) hr fun D σ H ⟨B0, H0, B, x0, E, q1, q2, q3⟩ => ?_
  refine sok H0 B σ H E _ fun J B1 H1 x1 F => ?_
  have x01 := x0.trans x1
  refine ⟨fun i m σ' H' => m = as.length - i ∧ i ≤ as.length ∧ ∃ B' Γ', I i Γ' ∧ Ext B1 H0 B' H' ∧ Env (pwOf X) H0 B' H' σ' Γ', ⟨as.length, rfl, Nat.zero_le _, B1, Γ, h0, x01.here, E.ext x1⟩, ?_⟩
  rintro i m σ' H' ⟨rfl, hi', B', Γ', hI, x2, E2⟩
  obtain ⟨hstop, hgo⟩ := F.2 B' H' x2.b x2.s
  by_cases hlt : i < as.length
  · have hget := List.getElem?_eq_getElem hlt
    obtain ⟨g1, hy⟩ := hgo i as[i] hget
    refine .inr ⟨g1, fun σ4 H4 => as.length - (i + 1) = as.length - (i + 1) ∧ i + 1 ≤ as.length ∧ ∃ B' Γ', I (i + 1) Γ' ∧ Ext B1 H0 B' H4 ∧ Env (pwOf X) H0 B' H4 σ4 Γ', fun σ4 H4 h4 => ⟨as.length - (i + 1), by omega, h4⟩, fun v Hy y => ?_⟩
    refine hy v Hy y H0 σ' Γ' E2 _ fun B3 H3 σ3 x3 _ E3 => ⟨i, as[i], Γ', hget, hI, B1, H0, B3, x2.trans x3, E3, fun Γ4 σ4 B4 H4 hI4 x4 E4 => ⟨rfl, hlt, B4, Γ4, hI4, x4, E4⟩,
      fun v d B4 H4 x4 => q2 v d B4 H4 (x01.over x4), fun a vs ds B4 H4 x4 => q3 a vs ds B4 H4 (x01.over x4)⟩
  · have hie : i = as.length := by omega
    subst hie
    exact .inl ⟨hstop, q1 Γ' σ' B' H' hI (x01.over x2) E2⟩
/-- while: W holds ahead of each test, m falls -/
theorem ss_while {ι : Type} {t : ι → Bool} (W : ι → List Sl) (m : ι → Nat) (i0 : ι) (C : ι → Prop) (hp : PassesOwn (model X.prog X.w) X.A X.env X.xe) (h0 : Γ = W i0) (hc0 : C i0) (hc : ∀ i, C i → PT X c (tT κ (W i) (Is (t i))))
    (hb : ∀ i, C i → t i = true → PSs X body (tS κ (W i) { p with nx := fun Γ' => ∃ j, C j ∧ m j < m i ∧ Γ' = W j })) (hr : ∀ i, C i → t i = false → PSs X rest (tS κ (W i) p)) : PSs X (.While c body [] pos :: rest) (tS κ Γ p) := by
  subst h0
  have hc' : PT X c (fun σ H Q => ∃ i, C i ∧ tT κ (W i) (Is (t i)) σ H Q) := ⟨fun pins s σ H Q J ⟨i, h1, q⟩ => (hc i h1).run pins s σ H Q J q⟩
  have hb' : PSs X body (fun D σ H => ∃ i, (C i ∧ t i = true) ∧ tS κ (W i) { p with nx := fun Γ' => ∃ j, C j ∧ m j < m i ∧ Γ' = W j } D σ H) := ⟨fun pins s σ H D J ⟨i, h1, q⟩ => (hb i h1.1 h1.2).run pins s σ H D J q⟩
  refine ss_then (C := fun Γ' => ∃ i, (C i ∧ t i = false) ∧ Γ' = W i) (ps_while hp hc' hb') (fun Γ' ⟨i, h, e⟩ => e ▸ hr i h.1 h.2) fun D σ H ⟨B0, H0, B, x0, E, q1, q2, q3⟩ => ?_
  refine ⟨fun n σ' H' => ∃ i B', C i ∧ n = m i ∧ Ext B0 H0 B' H' ∧ Env κ H0 B' H' σ' (W i), ⟨m i0, i0, B, hc0, rfl, x0, E⟩, ?_⟩
  rintro n σ' H' ⟨i, B', hi, rfl, x1, E1⟩
  refine ⟨i, hi, H0, B', E1, fun b B2 H2 x2 hb => ?_⟩
  have hb : b = t i := hb
  subst hb
  cases ht : t i with
  | true =>
    show (if true = true then _ else _)
    rw [if_pos rfl]
    exact ⟨fun σ' H' => ∃ n', n' < m i ∧ ∃ j B', C j ∧ n' = m j ∧ Ext B0 H0 B' H' ∧ Env κ H0 B' H' σ' (W j), fun σ' H' ⟨n', h, q⟩ => ⟨n', h, q⟩, i, ⟨hi, ht⟩, B0, H0, B2, x1.trans x2, E1.ext x2, fun Γ4 σ4 B4 H4 ⟨j, hj, hm, e⟩ x4 E4 => by
      subst e
      exact ⟨m j, hm, j, B4, hj, rfl, x4, E4⟩, q2, q3⟩
  | false =>
    show (if false = true then _ else _)
    rw [if_neg (by decide)]
    exact q1 _ σ' B2 H2 ⟨i, ⟨hi, ht⟩, rfl⟩ (x1.trans x2) (E1.ext x2)
/-- x, y = a, b -/
theorem ss_par2 (i j : Nat) {Sa Sb : Sl → Prop} {px py pt pt2 : Pos} {kt k2} (hc : X.calm = true) (ha : PE X a (tV κ Γ Sa)) (hb : PE X b (tV κ Γ Sb)) (hr : ∀ s t, Sa s → Sb t → PSs X rest (tS κ ((Γ.set i s).set j t) p)) (hN : X.N.Nodup) (hi : X.N[i]? = some x := by rfl) (hj : X.N[j]? = some y := by rfl) (hij : i ≠ j := by decide)
    (hx : X.env.scope.names.lookup x = some .local := by rfl) (hy : X.env.scope.names.lookup y = some .local := by rfl) (hs1 : starEach [a, b] X.env = (false, eval a X.env) :: starEach [b] X.env := by rfl) (hs2 : starEach [b] X.env = (false, eval b X.env) :: starEach [] X.env := by rfl)
    (hw : swappedStores [.Tuple [.Name x px, .Name y py] kt pt] (.Tuple [a, b] k2 pt2) X.env = pure (some [x, y]) := by rfl)
    (hs : swapsWithSole [.Tuple [.Name x px, .Name y py] kt pt] (.Tuple [a, b] k2 pt2) pos.line X.env = pure false := by rfl) : PSs X (.Assign [.Tuple [.Name x px, .Name y py] kt pt] (.Tuple [a, b] k2 pt2) pos :: rest) (tS κ Γ p) := by
  refine ss_then (C := fun Γ' => ∃ s t, (Sa s ∧ Sb t) ∧ Γ' = (Γ.set i s).set j t) (ps_par hc hN hi hj hij hx hy (pa_cons ha (pa_cons hb pa_nil hs2) hs1) hw hs) (fun Γ' ⟨s, t, h, e⟩ => e ▸ hr s t h.1 h.2) fun D σ H ⟨B0, H0, B, x0, E, q1, q2, q3⟩ => ?_
  refine ⟨H0, B, E, fun v s B1 H1 x1 hs ok hv => ⟨H0, B1, E.ext x1, fun w t B2 H2 x2 ht ok2 hw2 => ⟨v, w, rfl, ?_⟩⟩⟩
  have E2 := (E.ext x1).ext x2
  have E3 := E2.set (i := i) (ok.ext x2) (env_own_new (B' := B2) (H' := H2) E hv i)
  refine q1 _ _ B2 H2 ⟨s, t, ⟨hs, ht⟩, rfl⟩ ((x0.trans x1).trans x2) (E3.set (i := j) ok2 (fun ho k l hk hl hkl u hu => ?_))
  by_cases hki : k = i
  · subst hki
    have hl' : k < Γ.length := by
      have := (List.getElem?_eq_some_iff.mp hu).1
      rwa [List.length_set] at this
    rw [List.getElem?_set_self (by rw [E.len]; exact hl')] at hkl
    rw [List.getElem?_set_self hl'] at hu
    cases hu; cases hkl
    have n1 := hw2 ho l hl
    cases s with
    | any => rfl
    | d _ => rfl
    | own xs => obtain ⟨l', us, e1, _, _, e4, _⟩ := ok; cases e1; rw [n1] at e4; cases e4
    | owd xs => obtain ⟨l', us, e1, _, _, e4, _⟩ := ok; cases e1; rw [n1] at e4; cases e4
  · rw [List.getElem?_set_ne (Ne.symm hki)] at hkl hu
    exact env_own_new (B' := B2) (H' := H2) (E.ext x1) hw2 j ho k l hk hl hkl u hu
end
end K62
/-! built-ins over data -/
namespace K62
open PySem PySem.Spec PyProof.Rows L2

/-- a call with data | with a list to be read; data out | a new list out -/
def rD (κ : Pw) (ds : List Dd) (S : Dd → Prop) : List V → Hp → VK → Prop := fun vs H Q => ∃ B, Same B H ∧ RepAll κ B vs ds ∧ ∀ z d B' H', Ext B H B' H' → S d → Rep κ B' z d → Q z H'
def rDN (κ : Pw) (ds : List Dd) (T : List PyData → Prop) : List V → Hp → VK → Prop := fun vs H Q => ∃ B, Same B H ∧ RepAll κ B vs ds ∧ ∀ a us xs B' H', Ext B H B' H' → T xs → H a = none → B' a = none → H' a = some (.lst us) → DpAll κ.K B' us xs → Q (.ref a) H'
def rL (κ : Pw) (T0 : List PyData → Prop) (S : Dd → Prop) : List V → Hp → VK → Prop := fun vs H Q => ∃ a us ds B, vs = [.ref a] ∧ Same B H ∧ SqL κ.K H a us ∧ DpAll κ.K B us ds ∧ T0 ds ∧ ∀ z d B' H', Ext B H B' H' → S d → Rep κ B' z d → Q z H'
def rLN (κ : Pw) (T0 : List PyData → Prop) (T : List PyData → Prop) : List V → Hp → VK → Prop := fun vs H Q => ∃ a us ds B, vs = [.ref a] ∧ Same B H ∧ SqL κ.K H a us ∧ DpAll κ.K B us ds ∧ T0 ds ∧ ∀ a us xs B' H', Ext B H B' H' → T xs → H a = none → B' a = none → H' a = some (.lst us) → DpAll κ.K B' us xs → Q (.ref a) H'
section
variable {X : Cx} {e a b c : Expr} {es : List Expr} {pos p : Pos} {Γ : List Sl} {S Sa Sb : Dd → Prop} {κ : Pw} {ds : List Dd} {T T0 : List PyData → Prop} {x : Str} {bid ty : String}
theorem read_D {r : List V → Hp → VK → Prop} (hr : r = rD κ ds S) : ∀ σ H Q, tD κ Γ S σ H Q → tCB r (tA κ Γ (Is ds)) σ H Q := fun σ H Q ⟨H0, B, E, q⟩ => ⟨H0, B, E, fun vs ds' B1 H1 e1 s1 r1 => by
  cases s1
  rw [hr]
  exact ⟨B1, e1.s, r1, fun z d B2 H2 e2 s2 r2 => q z d B2 H2 (e1.trans e2) s2 r2⟩⟩
theorem read_DN : ∀ σ H Q, tN κ Γ T σ H Q → tCB (rDN κ ds T) (tA κ Γ (Is ds)) σ H Q := fun σ H Q ⟨H0, B, E, q⟩ => ⟨H0, B, E, fun vs ds' B1 H1 e1 s1 r1 => by
  cases s1
  exact ⟨B1, e1.s, r1, fun a us xs B2 H2 e2 s2 n1 n2 h1 h2 => q a us xs B2 H2 (e1.trans e2) s2 (e1.h.free n1) n2 h1 h2⟩⟩
theorem read_L {te : TE} (ht : te = tL κ Γ T0) : ∀ σ H Q, tD κ Γ S σ H Q → tCB (rL κ T0 S) (tCons te tNil) σ H Q := fun σ H Q ⟨H0, B, E, q⟩ => by
  rw [ht]
  exact ⟨H0, B, E, fun a vs ds' B1 H1 e1 s1 h1 h2 => ⟨a, vs, ds', B1, rfl, e1.s, h1, h2, s1, fun z d B2 H2 e2 s2 r2 => q z d B2 H2 (e1.trans e2) s2 r2⟩⟩
theorem read_LN : ∀ σ H Q, tN κ Γ T σ H Q → tCB (rLN κ T0 T) (tCons (tL κ Γ T0) tNil) σ H Q := fun σ H Q ⟨H0, B, E, q⟩ => ⟨H0, B, E, fun a vs ds' B1 H1 e1 s1 h1 h2 =>
  ⟨a, vs, ds', B1, rfl, e1.s, h1, h2, s1, fun a us xs B2 H2 e2 s2 n1 n2 h1 h2 => q a us xs B2 H2 (e1.trans e2) s2 (e1.h.free n1) n2 h1 h2⟩⟩
theorem pd_B (hc : CallR X (.builtin bid) (rD κ ds S)) (hg : Gl X x) (hm : X.mg x = none) (hv : bootBuiltins x = some (.builtin bid)) (ha : PA X (e :: es) (tA κ Γ (Is ds))) (hn : x ≠ "__name__" := by decide) (hd : (x == ("__debug__" : Str)) = false := by decide)
    (hs : starEach (e :: es) X.env = (false, eval e X.env) :: starEach es X.env := by rfl) (hpl : (backTo pos (starEach es X.env)).any (·.1) = false := by rfl) : PE X (.Call (.Name x p) (e :: es) [] pos) (tD κ Γ S) :=
  pe_mono (pe_callB hc hg hm hv ha hn hd hs hpl) (read_D rfl)
theorem pn_B (hc : CallR X (.builtin bid) (rDN κ ds T)) (hg : Gl X x) (hm : X.mg x = none) (hv : bootBuiltins x = some (.builtin bid)) (ha : PA X (e :: es) (tA κ Γ (Is ds))) (hn : x ≠ "__name__" := by decide) (hd : (x == ("__debug__" : Str)) = false := by decide)
    (hs : starEach (e :: es) X.env = (false, eval e X.env) :: starEach es X.env := by rfl) (hpl : (backTo pos (starEach es X.env)).any (·.1) = false := by rfl) : PE X (.Call (.Name x p) (e :: es) [] pos) (tN κ Γ T) :=
  pe_mono (pe_callB hc hg hm hv ha hn hd hs hpl) read_DN
theorem pd_BL (hc : CallR X (.builtin bid) (rL κ T0 S)) (hg : Gl X x) (hm : X.mg x = none) (hv : bootBuiltins x = some (.builtin bid)) (ha : PE X e (tL κ Γ T0)) (hn : x ≠ "__name__" := by decide) (hd : (x == ("__debug__" : Str)) = false := by decide)
    (hs : starEach [e] X.env = (false, eval e X.env) :: starEach [] X.env := by rfl) : PE X (.Call (.Name x p) [e] [] pos) (tD κ Γ S) :=
  pe_mono (pe_callB hc hg hm hv (pa_cons ha pa_nil hs) hn hd hs rfl) (read_L rfl)
theorem pn_BL (hc : CallR X (.builtin bid) (rLN κ T0 T)) (hg : Gl X x) (hm : X.mg x = none) (hv : bootBuiltins x = some (.builtin bid)) (ha : PE X e (tL κ Γ T0)) (hn : x ≠ "__name__" := by decide) (hd : (x == ("__debug__" : Str)) = false := by decide)
    (hs : starEach [e] X.env = (false, eval e X.env) :: starEach [] X.env := by rfl) : PE X (.Call (.Name x p) [e] [] pos) (tN κ Γ T) :=
  pe_mono (pe_callB hc hg hm hv (pa_cons ha pa_nil hs) hn hd hs rfl) read_LN
theorem pd_Y (hc : CallR X (.type ty) (rD κ ds S)) (hg : Gl X x) (hm : X.mg x = none) (hv : bootBuiltins x = some (.type ty)) (ha : PA X (e :: es) (tA κ Γ (Is ds))) (hn : x ≠ "__name__" := by decide) (hd : (x == ("__debug__" : Str)) = false := by decide)
    (hs : starEach (e :: es) X.env = (false, eval e X.env) :: starEach es X.env := by rfl) (hpl : (backTo pos (starEach es X.env)).any (·.1) = false := by rfl) : PE X (.Call (.Name x p) (e :: es) [] pos) (tD κ Γ S) :=
  pe_mono (pe_callTy hc hg hm hv ha hn hd hs hpl) (read_D rfl)
theorem pn_Y (hc : CallR X (.type ty) (rDN κ ds T)) (hg : Gl X x) (hm : X.mg x = none) (hv : bootBuiltins x = some (.type ty)) (ha : PA X (e :: es) (tA κ Γ (Is ds))) (hn : x ≠ "__name__" := by decide) (hd : (x == ("__debug__" : Str)) = false := by decide)
    (hs : starEach (e :: es) X.env = (false, eval e X.env) :: starEach es X.env := by rfl) (hpl : (backTo pos (starEach es X.env)).any (·.1) = false := by rfl) : PE X (.Call (.Name x p) (e :: es) [] pos) (tN κ Γ T) :=
  pe_mono (pe_callTy hc hg hm hv ha hn hd hs hpl) read_DN
theorem pd_YL (hc : CallR X (.type ty) (rL κ T0 S)) (hg : Gl X x) (hm : X.mg x = none) (hv : bootBuiltins x = some (.type ty)) (ha : PE X e (tL κ Γ T0)) (hn : x ≠ "__name__" := by decide) (hd : (x == ("__debug__" : Str)) = false := by decide)
    (hs : starEach [e] X.env = (false, eval e X.env) :: starEach [] X.env := by rfl) : PE X (.Call (.Name x p) [e] [] pos) (tD κ Γ S) :=
  pe_mono (pe_callTy hc hg hm hv (pa_cons ha pa_nil hs) hn hd hs rfl) (read_L rfl)
theorem pn_YL (hc : CallR X (.type ty) (rLN κ T0 T)) (hg : Gl X x) (hm : X.mg x = none) (hv : bootBuiltins x = some (.type ty)) (ha : PE X e (tL κ Γ T0)) (hn : x ≠ "__name__" := by decide) (hd : (x == ("__debug__" : Str)) = false := by decide)
    (hs : starEach [e] X.env = (false, eval e X.env) :: starEach [] X.env := by rfl) : PE X (.Call (.Name x p) [e] [] pos) (tN κ Γ T) :=
  pe_mono (pe_callTy hc hg hm hv (pa_cons ha pa_nil hs) hn hd hs rfl) read_LN

/-! ### the built-ins -/
theorem cr_mono {f : Value} {r r' : List V → Hp → VK → Prop} (h : CallR X f r) (m : ∀ vs H Q, r' vs H Q → r vs H Q) : CallR X f r' := fun pins s σ H xs us Q I v q => h pins s σ H xs us Q I v (m xs H Q q)
theorem rep1 {B : Hp} {vs : List V} {d : Dd} (h : RepAll κ B vs [d]) : ∃ v, vs = [v] ∧ Rep κ B v d := by
  cases h with
  | cons h1 h2 => cases h2; exact ⟨_, rfl, h1⟩
theorem rep2 {B : Hp} {vs : List V} {d d' : Dd} (h : RepAll κ B vs [d, d']) : ∃ v w, vs = [v, w] ∧ Rep κ B v d ∧ Rep κ B w d' := by
  cases h with
  | cons h1 h2 =>
    obtain ⟨w, rfl, h3⟩ := rep1 h2
    exact ⟨_, _, rfl, h1, h3⟩
theorem cr_lenT {xs : List PyData} : CallR X (.builtin "len") (rD (pwOf X) [.p (.tuple xs)] (IsI xs.length)) := cr_mono call_len_seq fun vs H Q ⟨B, e, r0, q⟩ => by
  obtain ⟨v, rfl, r⟩ := rep1 r0
  obtain ⟨a, us, rfl, h1, h2⟩ := rep_tup r
  refine ⟨a, us, rfl, .inr (same_t e h1), ?_⟩
  rw [dpAll_len h2]
  exact q _ _ B H (Ext.refl e) rfl (Dp.int _)
theorem cr_lenL {xs : List PyData} : CallR X (.builtin "len") (rL (pwOf X) (Is xs) (IsI xs.length)) := cr_mono call_len_seq fun vs H Q ⟨a, us, ds, B, ev, e, h1, h2, t, q⟩ => by
  subst ev
  cases t
  refine ⟨a, us, rfl, .inl h1, ?_⟩
  rw [dpAll_len h2]
  exact q _ _ B H (Ext.refl e) rfl (Dp.int _)
theorem cr_sumL (hc : X.calm = true) {ns : List Int} : CallR X (.builtin "sum") (rL (pwOf X) (Is (ns.map .int)) (IsI ns.sum)) := cr_mono (cr_sum hc) fun vs H Q ⟨a, us, ds, B, ev, e, h1, h2, t, q⟩ => by
  subst ev
  cases t
  cases dpAll_int_eq h2
  exact ⟨a, ns, rfl, h1, q _ _ B H (Ext.refl e) rfl (Dp.int _)⟩
theorem cr_allL (hc : X.calm = true) {ns : List Bool} : CallR X (.builtin "all") (rL (pwOf X) (Is (ns.map .bool)) (IsB (ns.all id))) := cr_mono (cr_all hc) fun vs H Q ⟨a, us, ds, B, ev, e, h1, h2, t, q⟩ => by
  subst ev
  cases t
  cases dpAll_bool_eq h2
  exact ⟨a, ns, rfl, h1, q _ _ B H (Ext.refl e) rfl (Dp.bl _)⟩
theorem cr_anyB (hc : X.calm = true) {ns : List Bool} : CallR X (.builtin "any") (rL (pwOf X) (Is (ns.map .bool)) (IsB (ns.any id))) := cr_mono (cr_any hc) fun vs H Q ⟨a, us, ds, B, ev, e, h1, h2, t, q⟩ => by
  subst ev
  cases t
  cases dpAll_bool_eq h2
  exact ⟨a, ns, rfl, h1, q _ _ B H (Ext.refl e) rfl (Dp.bl _)⟩
/-- at the library's level: a list told as data -/
theorem I_list {pins : List (Addr × Obj)} {σ : L2.St} {H B : Hp} {s : Shared} {a : Addr} {us : List V} {xs : List PyData} (I : Inv X pins σ H s) (e : Same B H) (h1 : SqL X.K H a us) (h2 : DpAll X.K B us xs) :
    ∃ its as, Vals us its ∧ s.heap.IsList a its.toArray ∧ ReadsAll s.heap its xs as := by
  obtain ⟨its, rv, pl, _⟩ := I.list h1
  obtain ⟨as, hr⟩ := Dp.readsAll I xs us its (dpAll_mono e _ _ h2) rv
  exact ⟨its, as, rv, pl.isList, hr⟩
theorem I_tuple {pins : List (Addr × Obj)} {σ : L2.St} {H B : Hp} {s : Shared} {a : Addr} {us : List V} {xs : List PyData} (I : Inv X pins σ H s) (e : Same B H) (h1 : SqT X.K B a us) (h2 : DpAll X.K B us xs) :
    ∃ its as, Vals us its ∧ s.heap.IsTuple a its.toArray ∧ ReadsAll s.heap its xs as := by
  obtain ⟨its, rv, pl, _⟩ := I.tuple (same_t e h1)
  obtain ⟨as, hr⟩ := Dp.readsAll I xs us its (dpAll_mono e _ _ h2) rv
  exact ⟨its, as, rv, pl, hr⟩
theorem plain_ints : ∀ ns : List Int, PyData.plainAll (ns.map .int) = true
  | [] => by simp [PyData.plainAll]
  | n :: ns => by simp [PyData.plainAll, PyData.plain, plain_ints ns]
theorem fits_ints (ns : List Int) : ∀ x ∈ ns.map PyData.int, x.fits63 := fun x hx => by
  obtain ⟨n, _, rfl⟩ := List.mem_map.mp hx
  trivial
theorem truthy_ints (ns : List Int) : (ns.map PyData.int).any PyData.truthy = ns.any (· != 0) := by
  rw [List.any_map]; rfl
theorem cr_anyL (hc : X.calm = true) {ns : List Int} : CallR X (.builtin "any") (rL (pwOf X) (Is (ns.map .int)) (IsB (ns.any (· != 0)))) := by
  intro pins s σ H vs us Q I rv ⟨a, ws, ds, B, ev, e, h1, h2, t, q⟩
  subst ev
  cases t
  rw [Vals.ref1 rv]
  obtain ⟨its, as, r1, r2, r3⟩ := I_list I e h1 h2
  refine PySem.W.any_list_data (I.ok.hd hc) r2 (by simpa using r3) (plain_ints ns) (fits_ints ns) fun h' tk k => ?_
  rw [truthy_ints]
  exact ⟨.bl _, H, I.kept k, rfl, q _ _ B H (Ext.refl e) rfl (Dp.bl _)⟩
theorem cr_anyT (hc : X.calm = true) {ns : List Int} : CallR X (.builtin "any") (rD (pwOf X) [.p (.tuple (ns.map .int))] (IsB (ns.any (· != 0)))) := by
  intro pins s σ H vs us Q I rv ⟨B, e, r0, q⟩
  obtain ⟨v, rfl, r⟩ := rep1 r0
  obtain ⟨a, ws, rfl, h1, h2⟩ := rep_tup r
  rw [Vals.ref1 rv]
  obtain ⟨its, as, r1, r2, r3⟩ := I_tuple I e h1 h2
  refine PySem.W.any_tuple_data (I.ok.hd hc) r2 (by simpa using r3) (plain_ints ns) (fits_ints ns) fun h' tk k => ?_
  rw [truthy_ints]
  exact ⟨.bl _, H, I.kept k, rfl, q _ _ B H (Ext.refl e) rfl (Dp.bl _)⟩
theorem cr_abs {i : Int} : CallR X (.builtin "abs") (rD (pwOf X) [.p (.int i)] (IsI i.natAbs)) := cr_mono call_abs fun vs H Q ⟨B, e, r0, q⟩ => by
  obtain ⟨v, rfl, r⟩ := rep1 r0
  cases rep_int r
  refine ⟨i, rfl, ?_⟩
  rw [show (if i < 0 then -i else i) = (i.natAbs : Int) by split <;> omega]
  exact q _ _ B H (Ext.refl e) rfl (Dp.int _)
theorem cr_max2 (hc : X.calm = true) {i j : Int} : CallR X (.builtin "max") (rD (pwOf X) [.p (.int i), .p (.int j)] (IsI (max i j))) := cr_mono (call_max2 hc) fun vs H Q ⟨B, e, r0, q⟩ => by
  obtain ⟨v, w, rfl, r1, r2⟩ := rep2 r0
  cases rep_int r1; cases rep_int r2
  refine ⟨i, j, rfl, ?_⟩
  rw [show (if j > i then j else i) = max i j by split <;> omega]
  exact q _ _ B H (Ext.refl e) rfl (Dp.int _)
theorem cr_int1 {i : Int} : CallR X (.type "int") (rD (pwOf X) [.p (.int i)] (IsI i)) := cr_mono call_int1 fun vs H Q ⟨B, e, r0, q⟩ => by
  obtain ⟨v, rfl, r⟩ := rep1 r0
  cases rep_int r
  exact .inl ⟨i, rfl, q _ _ B H (Ext.refl e) rfl (Dp.int _)⟩
theorem cr_tupL : CallR X (.type "tuple") (rL (pwOf X) T0 (fun d => ∃ xs, T0 xs ∧ d = .p (.tuple xs))) := cr_mono call_tuple_of fun vs H Q ⟨a, us, ds, B, ev, e, h1, h2, t, q⟩ => by
  subst ev
  refine ⟨a, us, rfl, .inl ⟨h1, fun l hl => ?_⟩⟩
  have x := Ext.new (o := .tup us) e hl
  exact q _ _ _ _ x ⟨ds, t, rfl⟩ (Dp.tup (.of upd_same) (dpAll_mono x.b _ _ h2))
theorem cr_tupT {xs : List PyData} : CallR X (.type "tuple") (rD (pwOf X) [.p (.tuple xs)] (IsP (.tuple xs))) := cr_mono call_tuple_of fun vs H Q ⟨B, e, r0, q⟩ => by
  obtain ⟨v, rfl, r⟩ := rep1 r0
  obtain ⟨a, us, rfl, h1, h2⟩ := rep_tup r
  exact ⟨a, us, rfl, .inr ⟨same_t e h1, q _ _ B H (Ext.refl e) rfl (Dp.tup h1 h2)⟩⟩
theorem cr_lstT {xs : List PyData} : CallR X (.type "list") (rDN (pwOf X) [.p (.tuple xs)] (Is xs)) := cr_mono call_list_of fun vs H Q ⟨B, e, r0, q⟩ => by
  obtain ⟨v, rfl, r⟩ := rep1 r0
  obtain ⟨a, us, rfl, h1, h2⟩ := rep_tup r
  exact ⟨a, us, rfl, .inr (same_t e h1), fun l hl => q l us xs B _ (Ext.hid e hl) rfl hl (e.free hl) upd_same h2⟩
/-- max of a tuple of ints -/
theorem alike_intsA (ns : List Int) : PySem.W.AlikeAll (ns.map .int) := ⟨fun x hx y hy => by
  obtain ⟨n, _, rfl⟩ := List.mem_map.mp hx
  obtain ⟨m, _, rfl⟩ := List.mem_map.mp hy
  rfl, fun x hx => by
  obtain ⟨n, _, rfl⟩ := List.mem_map.mp hx
  exact nofun⟩
theorem depth_ints0 (ns : List Int) : PyData.depthAll (ns.map .int) = 0 := PySem.W.depth_ints ns
theorem cr_maxT {k : Nat} (hc : X.calm = true) (hr : Room k X.A) {n : Int} {ns : List Int} : CallR X (.builtin "max") (rD (pwOf X) [.p (.tuple ((n :: ns).map .int))] (IsI (ns.foldl max n))) := by
  intro pins s σ H vs us Q I rv ⟨B, e, r0, q⟩
  obtain ⟨v, rfl, r⟩ := rep1 r0
  obtain ⟨a, ws, rfl, h1, h2⟩ := rep_tup r
  rw [Vals.ref1 rv]
  obtain ⟨its, as, r1, r2, r3⟩ := I_tuple I e h1 h2
  have hd : X.A.units + 1 + PyData.depthAll ((n :: ns).map .int) < cLine := by rw [depth_ints0]; have := hr.units; omega
  refine PySem.W.max_tuple_data (I.ok.hd hc) r2 (by simpa using r3) (alike_intsA (n :: ns)) hd fun i v h' tk bs hv rd k => ?_
  have e2 : PySem.W.maxD (.int n) (ns.map .int) = .int (ns.foldl max n) := PySem.W.maxD_ints n ns
  rw [e2] at rd
  cases rd with
  | int _ t => exact ⟨.int (ns.foldl max n), H, I.kept k, ⟨t, rfl⟩, q _ _ B H (Ext.refl e) rfl (Dp.int _)⟩
theorem cr_minT {k : Nat} (hc : X.calm = true) (hr : Room k X.A) {n : Int} {ns : List Int} : CallR X (.builtin "min") (rD (pwOf X) [.p (.tuple ((n :: ns).map .int))] (IsI (ns.foldl min n))) := by
  intro pins s σ H vs us Q I rv ⟨B, e, r0, q⟩
  obtain ⟨v, rfl, r⟩ := rep1 r0
  obtain ⟨a, ws, rfl, h1, h2⟩ := rep_tup r
  rw [Vals.ref1 rv]
  obtain ⟨its, as, r1, r2, r3⟩ := I_tuple I e h1 h2
  have hd : X.A.units + 1 + PyData.depthAll ((n :: ns).map .int) < cLine := by rw [depth_ints0]; have := hr.units; omega
  refine PySem.W.min_tuple_data (I.ok.hd hc) r2 (by simpa using r3) (alike_intsA (n :: ns)) hd fun i v h' tk bs hv rd k => ?_
  have e2 : PySem.W.minD (.int n) (ns.map .int) = .int (ns.foldl min n) := PySem.W.minD_ints n ns
  rw [e2] at rd
  cases rd with
  | int _ t => exact ⟨.int (ns.foldl min n), H, I.kept k, ⟨t, rfl⟩, q _ _ B H (Ext.refl e) rfl (Dp.int _)⟩
/-- repr, where none is running -/
theorem cr_repr {d : PyData} (hG : X.A.guards = some []) {k : Nat} (hr : Room k X.A) (hd : d.showable = true) (hn : d.hasDict = false) (hp : isDisplay d = true) (hdep : d.depth ≤ 20) (hz : d.shown.length ≤ sizeLine) : CallR X (.builtin "repr") (rD (pwOf X) [.p d] (IsP (.str d.shown))) := by
  intro pins s σ H vs us Q I rv ⟨B, e, r0, q⟩
  obtain ⟨v, rfl, r⟩ := rep1 r0
  cases rv with
  | cons rv rt =>
    cases rt
    obtain ⟨as, r1⟩ := Dp.reads I d v _ (dp_mono e _ _ r) rv
    obtain ⟨a, ea⟩ := isRef_of_reads r1 hp
    subst ea
    exact repr_of_reads' r1 hd (PyData.noDict_hsm hn) hG (by have := hr.units; omega) (fun _ _ h => h) (fun h' u tk k => ⟨.str d.shown, H, I.kept k, ⟨u, rfl⟩, q _ _ B H (Ext.refl e) rfl (Dp.str _)⟩) hz
end
end K62
/-! operators over data -/
namespace K62
open PySem PySem.Spec PyProof.Rows L2
section
variable {X : Cx} {e a b c : Expr} {es : List Expr} {pos p p2 : Pos} {Γ : List Sl} {S Sa Sb : Dd → Prop} {κ : Pw} {ds : List Dd} {T T0 : List PyData → Prop} {x : Str}

/-! ### tests by a comparison -/
theorem pt_op {op : CmpOp} {r : R2} {C : Bool → Prop} (ho : OpR X (compareOp op) r) (hm : behindInMarks op b = false) (hr : ∀ x y, Sa x → Sb y → Does κ r x y (fun d => ∃ k, C k ∧ d = .p (.bool k))) (ha : PE X a (tD κ Γ Sa)) (hb : PE X b (tD κ Γ Sb)) : PT X (.Compare a [op] [b] pos) (tT κ Γ C) :=
  pt_mono (pt_cmpR ho ha hb hm) fun σ H Q ⟨H0, B, E, q⟩ => op_read (S := fun d => ∃ k, C k ∧ d = .p (.bool k)) hr σ H _ ⟨H0, B, E, fun v d B' H' e s r => by
    obtain ⟨k, hk, rfl⟩ := s
    cases rep_bool r
    exact ⟨k, rfl, q k B' H' e hk⟩⟩
theorem does_is {r : R2} {x y : Dd} {k : Bool} (h : Does κ r x y (IsB k)) : Does κ r x y (fun d => ∃ j, Is k j ∧ d = .p (.bool j)) := fun B H v w e r1 r2 Q q => h B H v w e r1 r2 Q fun z d B' H' e' s r => q z d B' H' e' ⟨k, rfl, s⟩ r
variable {i j l : Int}
theorem ptc_lt (ha : PE X a (tD κ Γ (IsI i))) (hb : PE X b (tD κ Γ (IsI j))) : PT X (.Compare a [.Lt] [b] pos) (tT κ Γ (Is (decide (i < j)))) := pt_op op_lt (nomark _) (is2 (does_is does_B0)) ha hb
theorem ptc_le (ha : PE X a (tD κ Γ (IsI i))) (hb : PE X b (tD κ Γ (IsI j))) : PT X (.Compare a [.LtE] [b] pos) (tT κ Γ (Is (decide (i ≤ j)))) := pt_op op_le (nomark _) (is2 (does_is does_B0)) ha hb
theorem ptc_gt (ha : PE X a (tD κ Γ (IsI i))) (hb : PE X b (tD κ Γ (IsI j))) : PT X (.Compare a [.Gt] [b] pos) (tT κ Γ (Is (decide (j < i)))) := pt_op op_gt (nomark _) (is2 (does_is does_B0)) ha hb
theorem ptc_ge (ha : PE X a (tD κ Γ (IsI i))) (hb : PE X b (tD κ Γ (IsI j))) : PT X (.Compare a [.GtE] [b] pos) (tT κ Γ (Is (decide (j ≤ i)))) := pt_op op_ge (nomark _) (is2 (does_is does_B0)) ha hb
theorem ptc_eqD {k : Nat} {x y : PyData} (hr : Room k X.A) (hx : SeqAt.shaped x = true) (hy : SeqAt.shaped y = true) (ha : PE X a (tD (pwOf X) Γ (IsP x))) (hb : PE X b (tD (pwOf X) Γ (IsP y))) : PT X (.Compare a [.Eq] [b] pos) (tT (pwOf X) Γ (Is (PyData.eqv x y))) :=
  pt_op (op_eqD hr.units) (nomark _) (is2 (does_is (does_eq hx hy))) ha hb
theorem ptc_neD {k : Nat} {x y : PyData} (hr : Room k X.A) (hx : SeqAt.shaped x = true) (hy : SeqAt.shaped y = true) (ha : PE X a (tD (pwOf X) Γ (IsP x))) (hb : PE X b (tD (pwOf X) Γ (IsP y))) : PT X (.Compare a [.NotEq] [b] pos) (tT (pwOf X) Γ (Is (!PyData.eqv x y))) :=
  pt_op (op_neD hr.units) (nomark _) (is2 (does_is (does_ne hx hy))) ha hb
theorem ptc_notNone {x : PyData} {j p2} (ha : PE X a (tD κ Γ (IsP x))) : PT X (.Compare a [.IsNot] [.Constant .none j p2] pos) (tT κ Γ (Is (!isNone x))) :=
  pt_op op_notN (nomark _) (is2 (does_is fun B H v w e r1 r2 Q q => by
    cases rep_none r2
    refine ⟨rfl, ?_⟩
    rw [dp_isNone r1]
    exact q _ _ B H (Ext.refl e) rfl (Dp.bl _))) ha pd_non
/-- x is not True, x a bool -/
theorem ptc_notTrue {x y : Bool} (ha : PE X a (tD κ Γ (IsB x))) (hb : PE X b (tD κ Γ (IsB y))) : PT X (.Compare a [.IsNot] [b] pos) (tT κ Γ (Is (!decide (x = y)))) :=
  pt_op op_notBl (nomark _) (is2 (does_is fun B H v w e r1 r2 Q q => by
    cases rep_bool r1; cases rep_bool r2
    exact ⟨x, y, rfl, rfl, q _ _ B H (Ext.refl e) rfl (Dp.bl _)⟩)) ha hb
/-- lo <= e <= hi -/
theorem chain_read {g g' : Int → Int → Bool} : ∀ σ H Q, tD κ Γ (IsB (g i j && g' j l)) σ H Q → tChain (rI0 fun i j => .bl (g i j)) (rI0 fun i j => .bl (g' i j)) (tD κ Γ (IsI i)) (tD κ Γ (IsI j)) (tD κ Γ (IsI l)) σ H Q := fun σ H Q ⟨H0, B, E, q⟩ =>
  ⟨H0, B, E, fun v d B1 H1 e1 s1 r1 => ⟨H0, B1, E.ext e1, fun w d2 B2 H2 e2 s2 r2 => by
    cases s1; cases s2; cases rep_int r1; cases rep_int r2
    refine ⟨i, j, rfl, rfl, g i j, rfl, ?_⟩
    cases hg : g i j with
    | true =>
      rw [if_pos rfl]
      refine ⟨H0, B2, (E.ext e1).ext e2, fun u d3 B3 H3 e3 s3 r3 => ?_⟩
      cases s3; cases rep_int r3
      exact ⟨j, l, rfl, rfl, q (.bl (g' j l)) (.p (.bool (g' j l))) B3 H3 ((e1.trans e2).trans e3) (show Dd.p (.bool (g' j l)) = .p (.bool (g i j && g' j l)) by rw [hg]; rfl) (Dp.bl _)⟩
    | false =>
      rw [if_neg (by decide)]
      exact q (.bl false) (.p (.bool false)) B2 H2 (e1.trans e2) (show Dd.p (.bool false) = .p (.bool (g i j && g' j l)) by rw [hg]; rfl) (Dp.bl _)⟩⟩
theorem pd_lele (ha : PE X a (tD κ Γ (IsI i))) (hb : PE X b (tD κ Γ (IsI j))) (hc : PE X c (tD κ Γ (IsI l))) (hm : lastMarks [.LtE, .LtE] [b, c] = false := by with_unfolding_all rfl) : PE X (.Compare a [.LtE, .LtE] [b, c] pos) (tD κ Γ (IsB (decide (i ≤ j) && decide (j ≤ l)))) :=
  pe_mono (pe_chain op_le op_le ha hb hc hm) (chain_read (g := fun i j => decide (i ≤ j)) (g' := fun i j => decide (i ≤ j)))
theorem ptc_lele (ha : PE X a (tD κ Γ (IsI i))) (hb : PE X b (tD κ Γ (IsI j))) (hc : PE X c (tD κ Γ (IsI l))) (hm : lastMarks [.LtE, .LtE] [b, c] = false := by with_unfolding_all rfl) : PT X (.Compare a [.LtE, .LtE] [b, c] pos) (tT κ Γ (Is (decide (i ≤ j) && decide (j ≤ l)))) :=
  pt_mono (pt_chain op_le op_le ha hb hc hm) fun σ H Q ⟨H0, B, E, q⟩ => chain_read (g := fun i j => decide (i ≤ j)) (g' := fun i j => decide (i ≤ j)) σ H _ ⟨H0, B, E, fun v d B' H' e s r => by
    cases s; cases rep_bool r
    exact ⟨_, rfl, q _ B' H' e rfl⟩⟩

/-! ### items -/
theorem at_dp {K : PySem.W.Frag} {B : Hp} {vs : List V} {xs : List PyData} {i : Int} {d : PyData} (h : DpAll K B vs xs) (e : atI xs i = some d) : ∃ v, atI vs i = some v ∧ Dp K B v d := by
  unfold atI at e ⊢
  rw [dpAll_len h]
  obtain ⟨j, h1, h2⟩ := Option.bind_eq_some_iff.mp e
  obtain ⟨v, h3, h4⟩ := dpAll_get h h2
  exact ⟨v, by rw [h1]; exact h3, h4⟩
theorem pd_ixTS {xs : List PyData} (hb : PE X b (tD (pwOf X) Γ Sb)) (ha : PE X a (tD (pwOf X) Γ (IsP (.tuple xs)))) (h : ∀ y, Sb y → ∃ i d, y = .p (.int i) ∧ atI xs i = some d ∧ S (.p d)) (hs : PlainIx b := by intro _ _; rfl) : PE X (.Subscript a b pos) (tD (pwOf X) Γ S) :=
  pe_mono (pe_ix ix_tup ha hb hs) (op_read fun x y hx hy => by
    cases hx
    obtain ⟨i, d, rfl, h1, h2⟩ := h y hy
    intro B H v w e r1 r2 Q q
    obtain ⟨l, vs, rfl, h3, h4⟩ := rep_tup r1
    cases rep_int r2
    obtain ⟨u, h5, h6⟩ := at_dp h4 h1
    exact ⟨l, vs, i, u, rfl, rfl, same_t e h3, h5, q u _ B H (Ext.refl e) h2 h6⟩)
theorem pd_ixT {xs : List PyData} {d : PyData} (ha : PE X a (tD (pwOf X) Γ (IsP (.tuple xs)))) (hb : PE X b (tD (pwOf X) Γ (IsI i))) (h : atI xs i = some d) (hs : PlainIx b := by intro _ _; rfl) : PE X (.Subscript a b pos) (tD (pwOf X) Γ (IsP d)) :=
  pd_ixTS hb ha (fun y hy => by cases hy; exact ⟨i, d, rfl, h, rfl⟩) hs
theorem pd_ixLS {xs : List PyData} (hb : PE X b (tD (pwOf X) Γ Sb)) (ha : PE X a (tL (pwOf X) Γ (Is xs))) (h : ∀ y, Sb y → ∃ i d, y = .p (.int i) ∧ atI xs i = some d ∧ S (.p d)) (hs : PlainIx b := by intro _ _; rfl) : PE X (.Subscript a b pos) (tD (pwOf X) Γ S) :=
  pe_mono (pe_ix ix_list ha hb hs) fun σ H Q ⟨H0, B, E, q⟩ => ⟨H0, B, E, fun l vs ds B1 H1 e1 s1 h3 h4 => ⟨H0, B1, E.ext e1, fun w y B2 H2 e2 hy r2 => by
    cases s1
    obtain ⟨i, d, rfl, h1, h2⟩ := h y hy
    cases rep_int r2
    obtain ⟨u, h5, h6⟩ := at_dp h4 h1
    exact ⟨l, vs, i, u, rfl, rfl, e2.h.seq h3, h5, q u _ B2 H2 (e1.trans e2) h2 (dp_mono e2.b _ _ h6)⟩⟩⟩
theorem pd_ixL {xs : List PyData} {d : PyData} (ha : PE X a (tL (pwOf X) Γ (Is xs))) (hb : PE X b (tD (pwOf X) Γ (IsI i))) (h : atI xs i = some d) (hs : PlainIx b := by intro _ _; rfl) : PE X (.Subscript a b pos) (tD (pwOf X) Γ (IsP d)) :=
  pd_ixLS hb ha (fun y hy => by cases hy; exact ⟨i, d, rfl, h, rfl⟩) hs

/-! ### slices -/
def tO (κ : Pw) (Γ : List Sl) (S : Option Int → Prop) : TO := fun σ H Q => ∃ H0 B, Env κ H0 B H σ Γ ∧ ∀ o B' H', Ext B H B' H' → S o → Q o H'
theorem po_mono {o : Option Expr} {t t' : TO} (h : PO X o t) (m : ∀ σ H Q, t' σ H Q → t σ H Q) : PO X o t' := ⟨fun pins s σ H Q I q => h.run pins s σ H Q I (m σ H Q q)⟩
theorem pod_none : PO X none (tO κ Γ (Is none)) := po_mono po_none fun σ H Q ⟨H0, B, E, q⟩ => q none B H (Ext.refl E.sub) rfl
theorem pod_some (h : PE X e (tD κ Γ (IsI i))) : PO X (some e) (tO κ Γ (Is (some i))) := po_mono (po_some h) fun σ H Q ⟨H0, B, E, q⟩ => ⟨H0, B, E, fun v d B' H' e s r => by
  cases s; cases rep_int r
  exact ⟨i, rfl, q _ B' H' e rfl⟩⟩
def cutD {α : Type} (xs : List α) (lo hi : Option Int) : List α := (xs.drop (HT.sIx xs.length 0 lo)).take (HT.sIx xs.length xs.length hi - HT.sIx xs.length 0 lo)
theorem cut_dp {K : PySem.W.Frag} {B : Hp} {vs : List V} {xs : List PyData} (lo hi : Option Int) (h : DpAll K B vs xs) : DpAll K B (cutV vs lo hi) (cutD xs lo hi) := by
  unfold cutV cutD
  rw [dpAll_len h]
  exact dpAll_take _ (dpAll_drop _ h)
theorem cutD_whole {α : Type} {xs : List α} {lo hi : Option Int} (h : HT.sIx xs.length 0 lo = 0 ∧ HT.sIx xs.length xs.length hi = xs.length) : cutD xs lo hi = xs := by
  unfold cutD
  rw [h.1, h.2, List.drop_zero, Nat.sub_zero, List.take_length]
variable {lo hi : Option Expr} {ol oh : Option Int}
theorem pd_slT {xs : List PyData} (ha : PE X a (tD (pwOf X) Γ (IsP (.tuple xs)))) (hl : PO X lo (tO (pwOf X) Γ (Is ol))) (hu : PO X hi (tO (pwOf X) Γ (Is oh))) : PE X (.Subscript a (.Slice lo hi none p2) pos) (tD (pwOf X) Γ (IsP (.tuple (cutD xs ol oh)))) :=
  pe_mono (pe_slice sl_tupA ha hl hu) fun σ H Q ⟨H0, B, E, q⟩ => ⟨H0, B, E, fun v d B1 H1 e1 s1 r1 => ⟨H0, B1, E.ext e1, fun o B2 H2 e2 s2 => ⟨H0, B2, (E.ext e1).ext e2, fun o' B3 H3 e3 s3 => by
    cases s1; cases s2; cases s3
    obtain ⟨l, vs, rfl, h3, h4⟩ := rep_tup r1
    have h3' := same_t (e2.b.trans e3.b) h3
    have h4' := dpAll_mono (e2.b.trans e3.b) _ _ h4
    have e123 := (e1.trans e2).trans e3
    refine ⟨l, vs, rfl, same_t e3.s h3', fun hw => ?_, fun _ p hp => ?_⟩
    · refine q _ _ B3 H3 e123 rfl ?_
      rw [dpAll_len h4] at hw
      rw [cutD_whole hw]
      exact Dp.tup h3' h4'
    · have x := Ext.new (o := .tup (cutV vs ol oh)) e3.s hp
      exact q _ _ _ _ (e123.trans x) rfl (Dp.tup (.of upd_same) (dpAll_mono x.b _ _ (cut_dp ol oh h4')))⟩⟩⟩
theorem pn_slL {xs : List PyData} (ha : PE X a (tL (pwOf X) Γ (Is xs))) (hl : PO X lo (tO (pwOf X) Γ (Is ol))) (hu : PO X hi (tO (pwOf X) Γ (Is oh))) : PE X (.Subscript a (.Slice lo hi none p2) pos) (tN (pwOf X) Γ (Is (cutD xs ol oh))) :=
  pe_mono (pe_slice sl_list ha hl hu) fun σ H Q ⟨H0, B, E, q⟩ => ⟨H0, B, E, fun l vs ds B1 H1 e1 s1 h3 h4 => ⟨H0, B1, E.ext e1, fun o B2 H2 e2 s2 => ⟨H0, B2, (E.ext e1).ext e2, fun o' B3 H3 e3 s3 => by
    cases s1; cases s2; cases s3
    have e123 := (e1.trans e2).trans e3
    refine ⟨l, vs, rfl, (e2.h.trans e3.h).seq h3, fun p hp => ?_⟩
    have h4' := dpAll_mono (e2.b.trans e3.b) _ _ h4
    exact q p _ _ B3 _ (e123.trans (Ext.hid e3.s hp)) rfl (e123.h.free hp) (e3.s.free hp) upd_same (cut_dp ol oh h4')⟩⟩⟩
theorem dpAll_rev {K : PySem.W.Frag} {B : Hp} : ∀ {vs : List V} {xs : List PyData}, DpAll K B vs xs → DpAll K B vs.reverse xs.reverse
  | _, _, .nil => .nil
  | _, _, .cons h t => by
    rw [List.reverse_cons, List.reverse_cons]
    exact dpAll_app (dpAll_rev t) (dpAll_one h)
theorem pn_revL {xs : List PyData} {k : Nat} {q1 q2 q3 : Pos} (ha : PE X a (tL (pwOf X) Γ (Is xs))) : PE X (.Subscript a (.Slice none none (some (.UnaryOp .USub (.Constant (.int 1) k q1) q2)) q3) pos) (tN (pwOf X) Γ (Is xs.reverse)) :=
  pe_mono (pe_revL ha) fun σ H Q ⟨H0, B, E, q⟩ => ⟨H0, B, E, fun l vs ds B1 H1 e1 s1 h3 h4 => by
    cases s1
    exact ⟨l, vs, rfl, h3, fun p hp => q p _ _ B1 _ (e1.trans (Ext.hid e1.s hp)) rfl (e1.h.free hp) (e1.s.free hp) upd_same (dpAll_rev h4)⟩⟩

/-! ### + of tuples, [x] * n -/
theorem pd_catT {xs ys : List PyData} (ha : PE X a (tD (pwOf X) Γ (IsP (.tuple xs)))) (hb : PE X b (tD (pwOf X) Γ (IsP (.tuple ys)))) (hz : xs.length + ys.length ≤ 1000000) : PE X (.BinOp a .Add b pos) (tD (pwOf X) Γ (IsP (.tuple (xs ++ ys)))) :=
  pd_op op_catA (is2 fun B H v w e r1 r2 Q q => by
    obtain ⟨l, vs, rfl, h3, h4⟩ := rep_tup r1
    obtain ⟨l', vs', rfl, h3', h4'⟩ := rep_tup r2
    refine ⟨l, l', vs, vs', rfl, rfl, same_t e h3, same_t e h3', by rw [dpAll_len h4, dpAll_len h4', sizeLine_eq]; omega, fun h0 => ?_, fun _ h0 => ?_, fun _ _ p hp => ?_⟩
    · subst h0
      cases h4
      exact q _ _ B H (Ext.refl e) rfl (Dp.tup h3' h4')
    · subst h0
      cases h4'
      rw [List.append_nil] at q
      exact q _ _ B H (Ext.refl e) rfl (Dp.tup h3 h4)
    · have x := Ext.new (o := .tup (vs ++ vs')) e hp
      exact q _ _ _ _ x rfl (Dp.tup (.of upd_same) (dpAll_mono x.b _ _ (dpAll_app h4 h4')))) ha hb
theorem rep_dp {K : PySem.W.Frag} {B : Hp} {v : V} {d : PyData} (h : Dp K B v d) : ∀ n : Nat, DpAll K B (List.replicate n [v]).flatten (List.replicate n d)
  | 0 => .nil
  | n + 1 => by
    rw [List.replicate_succ, List.replicate_succ, List.flatten_cons]
    exact .cons h (rep_dp h n)
theorem pn_rep {d : PyData} {n : Nat} (hn : n ≤ 1000) (ha : PE X a (tN κ Γ (Is [d]))) (hb : PE X b (tD κ Γ (IsI n))) : PE X (.BinOp a .Mult b pos) (tN κ Γ (Is (List.replicate n d))) :=
  pe_mono (pe_op op_rep ha hb) fun σ H Q ⟨H0, B, E, q⟩ => ⟨H0, B, E, fun l vs ds B1 H1 e1 s1 n1 n2 h3 h4 => ⟨H0, B1, E.ext e1, fun w y B2 H2 e2 s2 r2 => by
    cases s1; cases s2; cases rep_int r2
    have e12 := e1.trans e2
    cases h4 with
    | cons hd ht =>
      cases ht
      refine ⟨l, n, _, rfl, rfl, e2.h _ _ h3, (by omega : (-(2 : Int) ^ 63) ≤ (n : Int)), (by omega : (n : Int) < 2 ^ 63), (by rw [List.length_singleton, Int.toNat_natCast, sizeLine_eq]; omega), fun p hp => ?_⟩
      rw [Int.toNat_natCast]
      exact q p _ _ B2 _ (e12.trans (Ext.hid e2.s hp)) rfl (e12.h.free hp) (e2.s.free hp) upd_same (rep_dp (dp_mono e2.b _ _ hd) n)⟩⟩

/-! ### in, < -/
theorem op_inT (hu : X.A.units + 65 < cLine) : OpR X (compareOp .In) (fun x y H Q => ∃ d ds, Dp X.K H x d ∧ Dp X.K H y (.tuple ds) ∧ SeqAt.shaped d = true ∧ SeqAt.shaped (.tuple ds) = true ∧ Q (.bl (ds.any fun z => PyData.eqv z d)) H) := by
  intro pins s σ H x y v u Q I rx ry ⟨d, ds, hd, he, sd, se, q⟩
  obtain ⟨as, r1⟩ := Dp.reads I d x v hd rx
  obtain ⟨bs, r2⟩ := Dp.reads I (.tuple ds) y u he ry
  exact SeqAt.in_tuple_reads r2 r1 (SeqAt.canLay_of_shaped se) (SeqAt.canLay_of_shaped sd) (room_in_shaped sd hu) ⟨.bl _, H, I, rfl, q⟩
theorem op_notInT (hu : X.A.units + 65 < cLine) : OpR X (compareOp .NotIn) (fun x y H Q => ∃ d ds, Dp X.K H x d ∧ Dp X.K H y (.tuple ds) ∧ SeqAt.shaped d = true ∧ SeqAt.shaped (.tuple ds) = true ∧ Q (.bl (!ds.any fun z => PyData.eqv z d)) H) := by
  intro pins s σ H x y v u Q I rx ry ⟨d, ds, hd, he, sd, se, q⟩
  obtain ⟨as, r1⟩ := Dp.reads I d x v hd rx
  obtain ⟨bs, r2⟩ := Dp.reads I (.tuple ds) y u he ry
  exact SeqAt.notIn_tuple_reads r2 r1 (SeqAt.canLay_of_shaped se) (SeqAt.canLay_of_shaped sd) (room_in_shaped sd hu) ⟨.bl _, H, I, rfl, q⟩
theorem hu65 {k : Nat} (hr : Room k X.A) : X.A.units + 65 < cLine := by have := hr.un; omega
theorem does_inT {K : PySem.W.Frag} {d : PyData} {ds : List PyData} {w : Bool → Bool} (hd : SeqAt.shaped d = true) (hs : SeqAt.shaped (.tuple ds) = true) : Does κ (fun x y H Q => ∃ d ds, Dp κ.K H x d ∧ Dp κ.K H y (.tuple ds) ∧ SeqAt.shaped d = true ∧ SeqAt.shaped (.tuple ds) = true ∧ Q (.bl (w (ds.any fun z => PyData.eqv z d))) H) (.p d) (.p (.tuple ds)) (IsB (w (ds.any fun z => PyData.eqv z d))) :=
  fun B H v u e r1 r2 Q q => ⟨d, ds, dp_mono e _ _ r1, dp_mono e _ _ r2, hd, hs, q _ _ B H (Ext.refl e) rfl (Dp.bl _)⟩
theorem pd_inT {k : Nat} {d : PyData} {ds : List PyData} (hr : Room k X.A) (hd : SeqAt.shaped d = true) (hs : SeqAt.shaped (.tuple ds) = true) (ha : PE X a (tD (pwOf X) Γ (IsP d))) (hb : PE X b (tD (pwOf X) Γ (IsP (.tuple ds)))) (hm : behindInMarks .In b = false := by rfl) : PE X (.Compare a [.In] [b] pos) (tD (pwOf X) Γ (IsB (ds.any fun z => PyData.eqv z d))) :=
  pd_cmp (op_inT (hu65 hr)) hm (is2 (does_inT (K := X.K) (w := id) hd hs)) ha hb
theorem ptc_inT {k : Nat} {d : PyData} {ds : List PyData} (hr : Room k X.A) (hd : SeqAt.shaped d = true) (hs : SeqAt.shaped (.tuple ds) = true) (ha : PE X a (tD (pwOf X) Γ (IsP d))) (hb : PE X b (tD (pwOf X) Γ (IsP (.tuple ds)))) (hm : behindInMarks .In b = false := by rfl) : PT X (.Compare a [.In] [b] pos) (tT (pwOf X) Γ (Is (ds.any fun z => PyData.eqv z d))) :=
  pt_op (op_inT (hu65 hr)) hm (is2 (does_is (does_inT (K := X.K) (w := id) hd hs))) ha hb
/-- x in l, l a list (own or not) -/
theorem inL_read {neg : Bool} {r : R2} {d : PyData} {ds : List PyData} (hrr : r = if neg then rNotInD κ.K else rInD κ.K) (hd : SeqAt.shaped d = true) (hs : SeqAt.shaped (.list ds) = true) : ∀ σ H Q, tD κ Γ (IsB (if neg then !ds.any (fun z => PyData.eqv z d) else ds.any fun z => PyData.eqv z d)) σ H Q → tOp r (tD κ Γ (IsP d)) (tL κ Γ (Is ds)) σ H Q := fun σ H Q ⟨H0, B, E, q⟩ =>
  ⟨H0, B, E, fun v x B1 H1 e1 s1 r1 => ⟨H0, B1, E.ext e1, fun l vs ds' B2 H2 e2 s2 h3 h4 => by
    cases s1; cases s2
    have h1 : Dp κ.K H2 v d := dp_mono (e2.b.trans e2.s) _ _ r1
    have h2 : Dp κ.K H2 (.ref l) (.list ds) := Dp.lst h3 (dpAll_mono e2.s _ _ h4)
    subst hrr
    cases neg with
    | true => exact ⟨d, ds, h1, h2, hd, hs, q _ _ B2 H2 (e1.trans e2) rfl (Dp.bl _)⟩
    | false => exact ⟨d, ds, h1, h2, hd, hs, q _ _ B2 H2 (e1.trans e2) rfl (Dp.bl _)⟩⟩⟩
theorem pd_inL {k : Nat} {d : PyData} {ds : List PyData} (hr : Room k X.A) (hd : SeqAt.shaped d = true) (hs : SeqAt.shaped (.list ds) = true) (ha : PE X a (tD (pwOf X) Γ (IsP d))) (hb : PE X b (tL (pwOf X) Γ (Is ds))) (hm : behindInMarks .In b = false := by rfl) : PE X (.Compare a [.In] [b] pos) (tD (pwOf X) Γ (IsB (ds.any fun z => PyData.eqv z d))) :=
  pe_mono (pe_cmpR (op_inD (hu65 hr)) ha hb hm) (inL_read (neg := false) rfl hd hs)
theorem ptc_notInL {k : Nat} {d : PyData} {ds : List PyData} (hr : Room k X.A) (hd : SeqAt.shaped d = true) (hs : SeqAt.shaped (.list ds) = true) (ha : PE X a (tD (pwOf X) Γ (IsP d))) (hb : PE X b (tL (pwOf X) Γ (Is ds))) (hm : behindInMarks .NotIn b = false := by rfl) : PT X (.Compare a [.NotIn] [b] pos) (tT (pwOf X) Γ (Is (!ds.any fun z => PyData.eqv z d))) :=
  pt_mono (pt_cmpR (op_notInD (hu65 hr)) ha hb hm) fun σ H Q ⟨H0, B, E, q⟩ => inL_read (neg := true) rfl hd hs σ H _ ⟨H0, B, E, fun v d B' H' e s r => by
    cases s; cases rep_bool r
    exact ⟨_, rfl, q _ B' H' e rfl⟩⟩
/-- l != [..], the list own or not -/
theorem neL_read {r : R2} {xs ys : List PyData} (hrr : r = rNeD κ.K) (hx : SeqAt.shaped (.list xs) = true) (hy : SeqAt.shaped (.list ys) = true) : ∀ σ H Q, tD κ Γ (IsB (!PyData.eqv (.list xs) (.list ys))) σ H Q → tOp r (tL κ Γ (Is xs)) (tL κ Γ (Is ys)) σ H Q := fun σ H Q ⟨H0, B, E, q⟩ =>
  ⟨H0, B, E, fun l vs ds B1 H1 e1 s1 h1 h2 => ⟨H0, B1, E.ext e1, fun l' vs' ds' B2 H2 e2 s2 h3 h4 => by
    cases s1; cases s2
    subst hrr
    exact ⟨.list xs, .list ys, Dp.lst (e2.h.seq h1) (dpAll_mono (e2.b.trans e2.s) _ _ h2), Dp.lst h3 (dpAll_mono e2.s _ _ h4), hx, hy, q _ _ B2 H2 (e1.trans e2) rfl (Dp.bl _)⟩⟩⟩
theorem ptc_neL {k : Nat} {xs ys : List PyData} (hr : Room k X.A) (hx : SeqAt.shaped (.list xs) = true) (hy : SeqAt.shaped (.list ys) = true) (ha : PE X a (tL (pwOf X) Γ (Is xs))) (hb : PE X b (tL (pwOf X) Γ (Is ys))) : PT X (.Compare a [.NotEq] [b] pos) (tT (pwOf X) Γ (Is (!PyData.eqv (.list xs) (.list ys)))) :=
  pt_mono (pt_cmpR (op_neD hr.units) ha hb (nomark _)) fun σ H Q ⟨H0, B, E, q⟩ => neL_read rfl hx hy σ H _ ⟨H0, B, E, fun v d B' H' e s r => by
    cases s; cases rep_bool r
    exact ⟨_, rfl, q _ B' H' e rfl⟩⟩
/-- < of tuples -/
theorem op_ltD (hu : X.A.units + 65 < cLine) : OpR X (compareOp .Lt) (fun x y H Q => ∃ d e, Dp X.K H x d ∧ Dp X.K H y e ∧ PySem.W.alike d e = true ∧ d ≠ .none ∧ d.depth ≤ 20 ∧ Q (.bl (PySem.W.dataLt d e)) H) := by
  intro pins s σ H x y v u Q I rx ry ⟨d, e, hd, he, h1, h2, h3, q⟩
  obtain ⟨as, r1⟩ := Dp.reads I d x v hd rx
  obtain ⟨bs, r2⟩ := Dp.reads I e y u he ry
  exact PySem.W.lt_data r1 r2 h1 h2 (by have := Nat.min_le_left d.depth e.depth; omega) ⟨.bl _, H, I, rfl, q⟩
theorem pd_ltD {k : Nat} {x y : PyData} (hr : Room k X.A) (h1 : PySem.W.alike x y = true) (h2 : x ≠ .none) (h3 : x.depth ≤ 20) (ha : PE X a (tD (pwOf X) Γ (IsP x))) (hb : PE X b (tD (pwOf X) Γ (IsP y))) : PE X (.Compare a [.Lt] [b] pos) (tD (pwOf X) Γ (IsB (PySem.W.dataLt x y))) :=
  pd_cmp (op_ltD (hu65 hr)) (nomark _) (is2 (x := .p x) (y := .p y) fun B H v w e r1 r2 Q q => ⟨x, y, dp_mono e _ _ r1, dp_mono e _ _ r2, h1, h2, h3, q _ _ B H (Ext.refl e) rfl (Dp.bl _)⟩) ha hb
end
end K62
/-! sorting, least of two, kinds -/
namespace K62
open PySem PySem.Spec PyProof.Rows L2

section
variable {X : Cx} {e a b c : Expr} {es : List Expr} {pos p p2 : Pos} {Γ : List Sl} {S Sa Sb : Dd → Prop} {κ : Pw} {ds : List Dd} {T T0 : List PyData → Prop} {x : Str}
abbrev EachV (K : PySem.W.Frag) (B : Hp) {β : Type} (enc : β → PyData) : Value → β → Prop := fun v b => ∃ x : V, RelV x v ∧ Dp K B x (enc b)
theorem each_of {K : PySem.W.Frag} {B : Hp} {β : Type} {enc : β → PyData} : ∀ {xs : List V} {us : List Value} {bs : List β}, Vals xs us → DpAll K B xs (bs.map enc) → PySem.W.EachIs (EachV K B enc) us bs
  | _, _, [], .nil, _ => .nil
  | _, _, [], .cons _ _, h => by cases h
  | _, _, _ :: _, .nil, h => by cases h
  | _, _, b :: bs, .cons r t, h => by
    have h : DpAll K B _ (enc b :: bs.map enc) := h
    cases h with
    | cons h1 h2 => exact .cons ⟨_, r, h1⟩ (each_of t h2)
theorem of_each {K : PySem.W.Frag} {B : Hp} {β : Type} {enc : β → PyData} : ∀ {us : List Value} {bs : List β}, PySem.W.EachIs (EachV K B enc) us bs → ∃ xs, Vals xs us ∧ DpAll K B xs (bs.map enc)
  | _, _, .nil => ⟨[], .nil, .nil⟩
  | _, _, .cons ⟨x, r, d⟩ t => by
    obtain ⟨xs, h1, h2⟩ := of_each t
    exact ⟨x :: xs, .cons r h1, .cons d h2⟩
/-- sorted(l) of data -/
theorem cr_sortL {k : Nat} {β : Type} {enc : β → PyData} {bs : List β} (hr : Room k X.A) (hal : PySem.W.AllAlike (bs.map enc)) (hk : PySem.W.Sortable (bs.map enc)) (hdep : ∀ b ∈ bs, (enc b).depth ≤ 20) : CallR X (.builtin "sorted") (rLN (pwOf X) (Is (bs.map enc)) (Is ((bs.mergeSort (PySem.W.dataLe false enc)).map enc))) := by
  intro pins s σ H vs us Q I rv ⟨a, ws, ds, B, ev, e, h1, h2, t, q⟩
  subst ev
  cases t
  rw [Vals.ref1 rv]
  obtain ⟨its, v1, hl, hz⟩ := I.list h1
  have hrd : PySem.W.EachIs (fun v b => ∃ as, Reads s.heap v (enc b) as) its bs := (each_of v1 (dpAll_mono e _ _ h2)).mono fun v b ⟨x, r, d⟩ => Dp.reads I _ _ _ d r
  have hlen : bs.length ≤ sizeLine := by rw [← List.length_map (f := enc), ← dpAll_len h2]; exact hz
  refine PySem.W.sorted_data hl.isList (each_of v1 h2) hrd hal hk hlen (fun b hb => by have := hr.un; have := hdep b hb; omega) fun out ho hE => ?_
  obtain ⟨ep, he'⟩ := PyProof.Rows.sortedAll_at s.heap its (List.toArray out)
  obtain ⟨xs, hx, hd⟩ := of_each hE
  have hn := I.hok.fresh (Nat.le_succ s.heap.objs.size)
  refine ⟨.ref _, upd H (s.heap.objs.size + 1) (.lst xs), I.laid (t' := s.toks) (fun _ _ => PyProof.Rows.sortedAll_old) (Nat.le_succ _) ⟨by rw [hx.length, ho]; exact hlen, out, ep, hx, he'⟩, rfl, ?_⟩
  exact q _ xs _ B _ (Ext.hid e hn) rfl hn (e.free hn) upd_same hd
end
end K62
/-! least of two, kinds, enumerate of a tuple, turned tuples -/
namespace K62
open PySem PySem.Spec PyProof.Rows L2

/-! ### isinstance -/
def tyN : PyData → String
  | .none => "NoneType"
  | .bool _ => "bool"
  | .int _ => "int"
  | .str _ => "str"
  | .list _ => "list"
  | .tuple _ => "tuple"
  | .dict _ => "dict"
section
variable {X : Cx} {e a b c : Expr} {es : List Expr} {pos p p2 q1 q2 tpos : Pos} {Γ : List Sl} {S Sa Sb : Dd → Prop} {κ : Pw} {ds : List Dd} {T T0 : List PyData → Prop} {x : Str} {ty : String}
theorem dp_ty {K : PySem.W.Frag} {H : Hp} {v : V} {d : PyData} (h : Dp K H v d) : TyX K H v (.type (tyN d)) := by
  cases h with
  | non => exact .base .non
  | bl b => exact .base (.bl b)
  | int i => exact .base (.int i)
  | str x => exact .base (.str x)
  | lst hs _ =>
    rcases hs with (h | ⟨o, h⟩) | ⟨o, its, n, h, hc, _⟩
    · exact .base (.lst h)
    · exact .base (.frz h)
    · exact .kList h hc
  | tup hs _ =>
    rcases hs with (h | ⟨o, h⟩) | ⟨o, its, n, h, hc, _⟩
    · exact .base (.tup h)
    · exact .fTuple h
    · exact .kTuple h hc
theorem kit_data (d : PyData) : kitB (tyN d) "int" = some d.isInt ∧ kitB (tyN d) "bool" = some d.isBool ∧ kitB (tyN d) "str" = some d.isStr ∧ kitB (tyN d) "tuple" = some d.isTuple ∧ kitB (tyN d) "list" = some d.isList := by
  cases d with
  | none => exact (by decide +kernel)
  | bool b => exact (show kitB "bool" "int" = some true ∧ kitB "bool" "bool" = some true ∧ kitB "bool" "str" = some false ∧ kitB "bool" "tuple" = some false ∧ kitB "bool" "list" = some false by decide +kernel)
  | int i => exact (show kitB "int" "int" = some true ∧ kitB "int" "bool" = some false ∧ kitB "int" "str" = some false ∧ kitB "int" "tuple" = some false ∧ kitB "int" "list" = some false by decide +kernel)
  | str i => exact (show kitB "str" "int" = some false ∧ kitB "str" "bool" = some false ∧ kitB "str" "str" = some true ∧ kitB "str" "tuple" = some false ∧ kitB "str" "list" = some false by decide +kernel)
  | list i => exact (show kitB "list" "int" = some false ∧ kitB "list" "bool" = some false ∧ kitB "list" "str" = some false ∧ kitB "list" "tuple" = some false ∧ kitB "list" "list" = some true by decide +kernel)
  | tuple i => exact (show kitB "tuple" "int" = some false ∧ kitB "tuple" "bool" = some false ∧ kitB "tuple" "str" = some false ∧ kitB "tuple" "tuple" = some true ∧ kitB "tuple" "list" = some false by decide +kernel)
  | dict i => exact (show kitB "dict" "int" = some false ∧ kitB "dict" "bool" = some false ∧ kitB "dict" "str" = some false ∧ kitB "dict" "tuple" = some false ∧ kitB "dict" "list" = some false by decide +kernel)
/-- isinstance(e, T) -/
theorem pd_isi {d : PyData} {r : Bool} (ha : PE X e (tD (pwOf X) Γ (IsP d))) (hk : kitB (tyN d) ty = some r) (hg : Gl X "isinstance") (hm : X.mg "isinstance" = none) (hgt : Gl X x) (hmt : X.mg x = none) (hv : bootBuiltins x = some (.type ty)) (hn : x ≠ "__name__" := by decide) (hd : (x == ("__debug__" : Str)) = false := by decide)
    (hs1 : starEach [e, .Name x p2] X.env = (false, eval e X.env) :: starEach [.Name x p2] X.env := by rfl) (hs2 : starEach [.Name x p2] X.env = (false, eval (.Name x p2) X.env) :: starEach [] X.env := by rfl)
    (hpl : (backTo pos (starEach [.Name x p2] X.env)).any (·.1) = false := by rfl) :
    PE X (.Call (.Name "isinstance" p) [e, .Name x p2] [] pos) (tD (pwOf X) Γ (IsB r)) :=
  pe_mono (pe_callB call_isi hg hm PyProof.Rows.boot_isinstance (pa_cons ha (pa_cons (pe_bltn hgt hmt hv (v := .ty ty) rfl hn hd) pa_nil hs2) hs1) (by decide) (by decide) hs1 hpl) fun σ H Q ⟨H0, B, E, q⟩ => ⟨H0, B, E, fun v d' B1 H1 e1 s1 r1 => by
    cases s1
    exact ⟨v, .ty ty, _, _, r, rfl, .ty ty, dp_ty (dp_mono e1.s _ _ r1), kit_ty hk, q _ _ B1 H1 e1 rfl (Dp.bl _)⟩⟩
/-- isinstance(e, (list, tuple)) -/
theorem pd_isi2 {d : PyData} {k : Nat} {p3 : Pos} (ha : PE X e (tD (pwOf X) Γ (IsP d))) (hg : Gl X "isinstance") (hm : X.mg "isinstance" = none) (hgl : Gl X "list") (hml : X.mg "list" = none) (hgt : Gl X "tuple") (hmt : X.mg "tuple" = none)
    (hs1 : starEach [e, .Tuple [.Name "list" p2, .Name "tuple" p3] k tpos] X.env = (false, eval e X.env) :: starEach [.Tuple [.Name "list" p2, .Name "tuple" p3] k tpos] X.env := by rfl) (hs2 : starEach [.Tuple [.Name "list" p2, .Name "tuple" p3] k tpos] X.env = (false, eval (.Tuple [.Name "list" p2, .Name "tuple" p3] k tpos) X.env) :: starEach [] X.env := by rfl)
    (hs3 : starEach [.Name "list" p2, .Name "tuple" p3] X.env = (false, eval (.Name "list" p2) X.env) :: starEach [.Name "tuple" p3] X.env := by rfl) (hs4 : starEach [.Name "tuple" p3] X.env = (false, eval (.Name "tuple" p3) X.env) :: starEach [] X.env := by rfl)
    (hpl : (backTo pos (starEach [.Tuple [.Name "list" p2, .Name "tuple" p3] k tpos] X.env)).any (·.1) = false := by rfl) :
    PE X (.Call (.Name "isinstance" p) [e, .Tuple [.Name "list" p2, .Name "tuple" p3] k tpos] [] pos) (tD (pwOf X) Γ (IsB (d.isList || d.isTuple))) :=
  pe_mono (pe_callB call_isiT hg hm PyProof.Rows.boot_isinstance (pa_cons ha (pa_cons (pe_tup (pa_cons (pe_bltn hgl hml boot_list (v := .ty "list") rfl) (pa_cons (pe_bltn hgt hmt boot_tuple (v := .ty "tuple") rfl) pa_nil hs4) hs3)) pa_nil hs2) hs1) (by decide) (by decide) hs1 hpl) fun σ H Q ⟨H0, B, E, q⟩ => ⟨H0, B, E, fun v d' B1 H1 e1 s1 r1 => by
    cases s1
    refine ⟨by show 2 ≤ sizeLine; rw [sizeLine_eq]; omega, fun t ht => ?_⟩
    have x2 := Ext.hid (o := .tup [.ty "list", .ty "tuple"]) e1.s ht
    refine ⟨v, t, _, _, [.type "list", .type "tuple"], d.isList || d.isTuple, rfl, upd_same, .cons (.ty _) (.cons (.ty _) .nil), dp_ty (dp_mono x2.s _ _ r1), ?_, q _ _ B1 _ (e1.trans x2) rfl (Dp.bl _)⟩
    obtain ⟨_, _, _, kt, kl⟩ := kit_data d
    refine kitAny_cons (kit_ty kl) (fun h1 => kitAny_cons (kit_ty kt) (fun h2 => ?_) (fun h2 => ?_)) (fun h1 => ?_)
    · rw [h1, h2]; exact kitAny_nil
    · rw [h2]; simp
    · rw [h1]; rfl⟩

/-! ### the least of two -/
theorem call_min_pair {P : Program} {w : World} {A : Around} {E : Value → Shared → Prop} {s : Shared} {u v : Value} {x y : PyData} {as bs : List Addr} {Q : Value → Shared → Prop} (hh : A.handled = none) (ru : Reads s.heap u x as) (rv : Reads s.heap v y bs) (ha : PySem.W.AlikeAll [x, y]) (hu : A.units + 1 + PyData.depthAll [x, y] < cLine)
    (h : ∀ h' tk, (∀ b o, s.heap.get? b = some o → h'.get? b = some o) → Q (if PySem.W.dataLt y x then v else u) { s with heap := h', toks := tk }) : wpAny (model P w) A (call (.builtin "min") [u, v]) Q E s := by
  have hname : (toString "min" ++ toString ".loop" : String) = "min.loop" := by decide
  refine call_function_tree F.kind_min F.plain_min F.entry_min (F.args_min2 _ _) ?_
  show wpAny _ A.in1 (Builtin.Builtins.bindParams "min" ["key", "default"] 0 ⟨[], []⟩ >>= _) _ _ s
  refine wpAny_bind (wpAny_of_eq (show Builtin.Builtins.bindParams "min" ["key", "default"] 0 ⟨[], []⟩ = pure [none, none] from rfl) ?_)
  show wpAny _ A.in1 (newTuple [u, v] >>= _) _ _ s
  refine wpAny_bind (wpAny_newObj_type ?_)
  have kp : ∀ b o, s.heap.get? b = some o → (s.heap.push { cls := .type "tuple", data := .seq #[u, v] }).get? b = some o := fun b o e => Heap.get?_push_of_some _ e
  have hr : ReadsAll (s.heap.push { cls := .type "tuple", data := .seq #[u, v] }) #[u, v].toList [x, y] (as ++ (bs ++ [])) := .cons (PyProof.Rows.Reads.keeps kp ru) (.cons (PyProof.Rows.Reads.keeps kp rv) .nil)
  have hl : (s.heap.push { cls := .type "tuple", data := .seq #[u, v] }).IsTuple s.heap.objs.size #[u, v] := ⟨_, Heap.get?_push_size _ rfl, rfl, _, rfl⟩
  refine wpAny_bind (PySem.W.iter_tupleW (A := A.in1) (s := { s with heap := s.heap.push { cls := .type "tuple", data := .seq #[u, v] } }) hh hl fun s₂ e W st hfp hw hk => ?_)
  refine wpAny_bind (wpAny_newObj_type ?_)
  have hSf : s₂.heap.objs.size ∉ [(s.heap.push { cls := .type "tuple", data := .seq #[u, v] }).objs.size, s.heap.objs.size] := fun hm => Nat.lt_irrefl _ (hfp _ hm)
  have hSH : (s.heap.push { cls := .type "tuple", data := .seq #[u, v] }).get? s₂.heap.objs.size = none := PySem.fresh_in hk
  rw [hname]
  refine wpAny_pure ⟨plainId_quiet F.plain_min_loop _, codeAny_min_loop_firstH W _ hw _ (PySem.W.cmpIn_lt (A := A.in1) (s := { s with heap := s.heap.push { cls := .type "tuple", data := .seq #[u, v] } }) hr ha (by show A.units + 1 + _ < _; exact hu)) s₂.heap.objs.size hSf hSH [] (by show 0 < 2; omega) (fun b o eb => Heap.get?_push_of_some _ (hk b o eb)) (W.frame _ s₂ _ s₂.toks st (Nat.le_refl _) fun b _ o eb => Heap.get?_push_of_some _ eb) (Heap.get?_push_size _ rfl) fun r s' hP m => ?_⟩
  have e2 : argBest (fun i j => PySem.W.dataLt ([x, y].getD i .none) ([x, y].getD j .none)) (#[u, v].size - 1) = if PySem.W.dataLt y x then 1 else 0 := rfl
  have hP : #[u, v][argBest (fun i j => PySem.W.dataLt ([x, y].getD i .none) ([x, y].getD j .none)) (#[u, v].size - 1)]? = some r := hP
  rw [e2] at hP
  have er : r = if PySem.W.dataLt y x then v else u := by
    cases hc : PySem.W.dataLt y x with
    | true => rw [hc] at hP; exact (Option.some.inj hP).symm
    | false => rw [hc] at hP; exact (Option.some.inj hP).symm
  rw [er]
  subst e
  have hkeep : ∀ b o, s.heap.get? b = some o → s'.heap.get? b = some o := fun b o eb => m.heap b o (fun hb => by
    have hlt := Heap.lt_size eb
    have hz : s.heap.objs.size < (s.heap.push { cls := .type "tuple", data := .seq #[u, v] }).objs.size := by rw [Heap.size_push]; exact Nat.lt_succ_self _
    rcases List.mem_cons.mp hb with h1 | h1
    · subst h1
      exact absurd (Nat.lt_trans (Nat.lt_trans hlt hz) (by show (s.heap.push { cls := .type "tuple", data := .seq #[u, v] }).objs.size < ((s.heap.push { cls := .type "tuple", data := .seq #[u, v] }).push _).objs.size; rw [Heap.size_push (s.heap.push _)]; exact Nat.lt_succ_self _)) (Nat.lt_irrefl _)
    · rw [List.mem_singleton.mp h1] at hlt
      exact absurd (Nat.lt_trans hlt hz) (Nat.lt_irrefl _)) (Heap.get?_push_of_some _ (Heap.get?_push_of_some _ (kp b o eb)))
  have es : s' = { s with heap := s'.heap, toks := s'.toks } := by
    obtain ⟨hp, g, d, tk, os⟩ := s'
    have h1 : g = s.gens := m.gens
    have h2 : d = s.drawn := m.drawn
    have h3 : os = s.os := m.os
    subst h1; subst h2; subst h3
    rfl
  rw [es]
  exact h _ _ hkeep
theorem cr_minD {k : Nat} (hc : X.calm = true) (hr : Room k X.A) {x y : PyData} (ha : PySem.W.AlikeAll [x, y]) (hd : PyData.depthAll [x, y] ≤ 20) : CallR X (.builtin "min") (rD (pwOf X) [.p x, .p y] (IsP (if PySem.W.dataLt y x then y else x))) := by
  intro pins s σ H vs us Q I rv ⟨B, e, r0, q⟩
  obtain ⟨v, w, rfl, r1, r2⟩ := rep2 r0
  obtain ⟨u1, u2, rfl, g1, g2⟩ := vals2 rv
  obtain ⟨as, a1⟩ := Dp.reads I x v u1 (dp_mono e _ _ r1) g1
  obtain ⟨bs, a2⟩ := Dp.reads I y w u2 (dp_mono e _ _ r2) g2
  refine call_min_pair (I.ok.hd hc) a1 a2 ha (by have := hr.un; omega) fun h' tk k => ?_
  refine ⟨if PySem.W.dataLt y x then w else v, H, I.kept k, ?_, q _ _ B H (Ext.refl e) rfl ?_⟩
  · split
    · exact g2
    · exact g1
  · split
    · exact r2
    · exact r1
end
end K62
/-! enumerate of a tuple, turned tuples, list methods, three at once -/
namespace K62
open PySem PySem.Spec PyProof.Rows L2

/-! ### enumerate(t) -/
set_option maxHeartbeats 1000000 in
theorem meets_enum1 {v : Value} {o : Obj} {Z : Heap → Prop} (B : Begins v o Z) :
    Meets (Builtin.«enumerate.__new__» ⟨[.type "enumerate", v], []⟩) (fun _ R s => Z s.heap ∧
      R (.ok (.ret (.ref (s.heap.push o).objs.size))) { s with heap := (s.heap.push o).push { cls := .type "enumerate", data := .fields #[.none, .bool false, .ref s.heap.objs.size, rawInt 0, .none, .none] } }) :=
  .of_wp fun prog w A R s h => by
    obtain ⟨hp, g, d, tk, os⟩ := s; obtain ⟨h1, h⟩ := h
    have hsub := sub_enumerate
    have q1 : ∀ {A' : Around} {E : Value → Shared → Prop} {Q : Value → Shared → Prop}, Q (.ref hp.objs.size) ⟨hp.push o, g, d, tk, os⟩ → wpAny (model prog w) A' (pyIter v) Q E ⟨hp, g, d, tk, os⟩ :=
      fun q => B.iter prog w _ _ ⟨hp, g, d, tk, os⟩ _ h1 q
    wp_walk using q1
    refine wpAny_stack_any fun st => wpAny_pure ?_
    split
    · rename_i c _ _ _ _ _
      cases (c == Value.type "enumerate")
      · wp_walk using q1
        exact ⟨_, rfl, h⟩
      · wp_walk using q1
        exact ⟨_, rfl, h⟩
    · wp_walk using q1
      exact ⟨_, rfl, h⟩
theorem call_enum1 {prog : Program} {w : World} {A : Around} {E : Value → Shared → Prop} {s : Shared} {v : Value} {o : Obj} {Z : Heap → Prop} {Q : Value → Shared → Prop} (B : Begins v o Z) (h1 : Z s.heap)
    (h : ∀ h', IsEnum h' (s.heap.objs.size + 1) s.heap.objs.size 0 .none → h'.get? s.heap.objs.size = some o →
      (∀ b o, s.heap.get? b = some o → h'.get? b = some o) → Q (.ref (s.heap.objs.size + 1)) { s with heap := h' }) :
    wpAny (model prog w) A (call (.type "enumerate") [v]) Q E s := by
  refine callType_new F.called_enumerate (by decide) (F.typeCall_enumerate_1 _) (F.newCall_enumerate_1 _) (fun obj => F.args_object_init_2 obj _) F.entry_enumerate_new (meets_enum1 B) ⟨h1, ?_⟩
  have hz : (s.heap.push o).objs.size = s.heap.objs.size + 1 := Heap.size_push ..
  show _ ∧ _
  rw [hz]
  have he := Heap.get?_push_size (s.heap.push o) (o := { cls := .type "enumerate", data := .fields #[.none, .bool false, .ref s.heap.objs.size, rawInt 0, .none, .none] }) rfl
  rw [hz] at he
  exact ⟨⟨_, he, rfl⟩, h _ he (Heap.get?_push_of_some _ (Heap.get?_push_size _ B.free)) fun b o x => Heap.get?_push_of_some _ (Heap.get?_push_of_some _ x)⟩
/-- the items of a tuple, each in a new pair with its place -/
def Iu (K : PySem.W.Frag) (a : Addr) : It :=
  ⟨fun i H => ∃ (xs : List V) (x : V), SqT K H a xs ∧ xs[i]? = some x, fun i H v H' => ∃ T x, v = .ref T ∧ H T = none ∧ H' = upd H T (.tup [.int (i : Nat), x]) ∧ ∀ xs, SqT K H a xs → xs[i]? = some x, fun i H => ∃ xs : List V, SqT K H a xs ∧ xs.length = i⟩
theorem turn_iu {P : Program} {w : World} {K : PySem.W.Frag} {elts : List Expr} {kk : Nat} {tpos : Pos} (a e it : Addr) (hea : e ≠ a) (hia : it ≠ a) :
    Turn P w K (.Tuple elts kk tpos) (Iu K a) [e, it] e (fun i h => (∃ old, IsEnum h e it ((i : Nat) : Int) old) ∧ h.IsTupleIter it a i ∧ e ≠ it) where
  mem := by simp
  obj := fun i h st b hb => by
    obtain ⟨⟨old, he⟩, ⟨o, ho, hc, hd⟩, _⟩ := st
    have e' : b = e ∨ b = it := by simpa using hb
    rcases e' with z | z
    · rw [z]; exact ⟨_, he, fun v q => nomatch q⟩
    · rw [z]; exact ⟨o, ho, fun v q => by rw [hd] at q; cases q⟩
  keep := fun i h h' st k => let ⟨⟨old, he⟩, hi, hne⟩ := st; ⟨⟨old, k e (by simp) _ he⟩, hi.at fun o q => k it (by simp) o q, hne⟩
  item := by
    intro X hP hw hK hc i pins s σ H E I hf st hg
    subst hP hw hK
    obtain ⟨⟨old, he⟩, hit, hne⟩ := st
    obtain ⟨xs, x, hq, hx⟩ := hg
    obtain ⟨its, rv, p, hz⟩ := I.tuple hq
    obtain ⟨u, hu, ru⟩ := rv.get hx
    have hel : e < s.heap.objs.size := Heap.lt_size he
    have hil : it < s.heap.objs.size := by obtain ⟨_, q, _⟩ := hit; exact Heap.lt_size q
    have hlt : i < its.toArray.size := by rw [List.size_toArray]; exact (List.getElem?_eq_some_iff.mp hu).1
    refine wpAny_pyNext_enum_itemD (Draws.tuple (A := X.A.in1) (I.ok.hd hc) it a (Ne.symm hia) its.toArray) he ⟨hit, p⟩ hlt hne (by simp [hne, hea]) fun x' h' tk hP ho hst' hT hsz hk => ?_
    have ex : x' = u := by
      have hP : its.toArray[i]? = some x' := hP
      rw [show its.toArray[i]? = some u by simpa using hu] at hP
      exact (Option.some.inj hP).symm
    subst ex
    refine ⟨_, rfl, wpAny_letOwnedTupleGo_enum (s := { s with heap := h', toks := tk + 1 }) ho fun h'' he' sb => ?_⟩
    have hT2 : h''.get? s.heap.objs.size = some { cls := .type "tuple", data := .seq #[.int i tk, x'] } := (sb.2 _ (Nat.ne_of_gt hel)).trans hT
    have new : ObjOk X.prog X.w (upd H s.heap.objs.size (.tup [.int (i : Nat), x])) h'' s.heap.objs.size (.tup [.int (i : Nat), x]) :=
      ⟨by show 2 ≤ sizeLine; decide, [.int i tk, x'], .cons ⟨_, rfl⟩ (.cons ru .nil), ⟨_, hT2, rfl, _, rfl⟩⟩
    have I1 : Inv X pins σ (upd H s.heap.objs.size (.tup [.int (i : Nat), x])) { s with heap := h'', toks := tk + 1 } :=
      I.turnedNew (ch := [e, it]) (fun b ob hb q => (sb.2 b (fun z => hb (by simp [z]))).trans (hk b ob (fun z => hb (by simp [z])) (fun z => hb (by simp [z])) q)) hf (Nat.le_refl _) new
    refine ⟨.ref s.heap.objs.size, _, I1, rfl, ⟨_, x, rfl, I.hok.fresh (Nat.le_refl _), rfl, fun ys hy => by rw [I.tuple_inj hy hq]; exact hx⟩, ⟨⟨x', ?_⟩, hst'.1.at fun o q => (sb.2 it (Ne.symm hne)).trans q, hne⟩, fun b hb => ?_⟩
    · have e1 : ((i + 1 : Nat) : Int) = (i : Int) + 1 := by omega
      rw [e1]; exact he'
    · have hb' : b < s.heap.objs.size := by
        have e' : b = e ∨ b = it := by simpa using hb
        rcases e' with z | z
        · rw [z]; exact hel
        · rw [z]; exact hil
      rw [upd_ne (Nat.ne_of_lt hb')]
      exact (hf b hb).1
  done := by
    intro X hP hw hK hc i pins s σ H E I hf st hg
    subst hP hw hK
    obtain ⟨⟨old, he⟩, hit, hne⟩ := st
    obtain ⟨xs, hq, hx⟩ := hg
    obtain ⟨its, rv, p, hz⟩ := I.tuple hq
    obtain ⟨f0, f1, f2, f3, f4, f5⟩ := hf it (by simp)
    have hl := rv.length
    have hn : i = its.toArray.size := by rw [List.size_toArray]; omega
    subst hn
    exact wpAny_pyNext_enum_endD (Draws.tuple (A := X.A.in1) (I.ok.hd hc) it a (Ne.symm hia) its.toArray) he ⟨hit, p⟩ fun h' eb => ⟨rfl, I.turned (t' := s.toks) (fun b o hb q => eb b o hb q) f0 f1 f3 f4 f5⟩
  self := fun A i s Q E st h => let ⟨⟨_, he⟩, _⟩ := st; wpAny_pyIter_enum he h
def iEnumT (K : PySem.W.Frag) (ta : TA) : TI := fun σ H R => ta σ H fun vs H1 => ∃ a xs, vs = [.ref a] ∧ SqT K H1 a xs ∧ R (Iu K a) H1
theorem pi_enumT {X : Cx} {e : Expr} {ta : TA} {p pos tpos : Pos} {elts : List Expr} {kk : Nat} (hg : Gl X "enumerate") (hm : X.mg "enumerate" = none) (ha : PA X [e] ta) (hs : starEach [e] X.env = [(false, eval e X.env)] := by rfl) :
    PI X (.Tuple elts kk tpos) (.Call (.Name "enumerate" p) [e] [] pos) (iEnumT X.K ta) := by
  refine ⟨fun pins s σ H R I h => ?_⟩
  refine Call_ (ld_blt I hg hm boot_enumerate (PyProof.Rows.callWith_type1 (thn (ha.run pos pins s σ H _ I h) fun us s1 ⟨vs, H1, I1, r1, q1⟩ => ?_) hs rfl))
  obtain ⟨a, xs, ex, hq, q⟩ := q1
  subst ex
  obtain rfl := Vals.ref1 r1
  obtain ⟨its, rv, p', hz⟩ := I1.tuple hq
  have hal : a < s1.heap.objs.size := by obtain ⟨o, ho, _⟩ := p'; exact Heap.lt_size ho
  refine call_enum1 (begins_tuple a its.toArray) p' fun h' he hit hk => wpAny_pyIter_enum he ?_
  have I2 : Inv X pins σ H1 { s1 with heap := h' } := I1.kept (t' := s1.toks) hk
  refine ⟨s1.heap.objs.size + 1, [s1.heap.objs.size + 1, s1.heap.objs.size], _, _, H1, rfl, I2, turn_iu a (s1.heap.objs.size + 1) s1.heap.objs.size (Nat.ne_of_gt (Nat.lt_succ_of_lt hal)) (Nat.ne_of_gt hal), ⟨⟨.none, he⟩, ⟨_, hit, rfl, rfl⟩, Nat.succ_ne_self _⟩, fun b hb => ?_, q⟩
  have e' : b = s1.heap.objs.size + 1 ∨ b = s1.heap.objs.size := by simpa using hb
  have hle : s1.heap.objs.size ≤ b := by
    rcases e' with z | z
    · rw [z]; exact Nat.le_add_right _ _
    · rw [z]; exact Nat.le_refl _
  exact I1.fpOk hle (I1.hok.fresh hle)
section
variable {X : Cx} {e a b c tg iter : Expr} {es : List Expr} {pos p p1 p2 : Pos} {Γ : List Sl} {κ : Pw} {ι : Type} {as : List ι} {enc : ι → PyData} {x y z : Str} {rest : List Stmt} {po : Po}
theorem src_enumT {j k : Nat} {elts : List Expr} {kk : Nat} {p tpos : Pos} (hg : Gl X "enumerate") (hm : X.mg "enumerate" = none) (ha : PE X a (tD (pwOf X) Γ (IsP (.tuple (as.map enc)))))
    (hs : starEach [a] X.env = (false, eval a X.env) :: starEach [] X.env := by rfl) (hs2 : starEach [a] X.env = [(false, eval a X.env)] := by rfl) :
    Src X (.Tuple elts kk tpos) (.Call (.Name "enumerate" p) [a] [] pos) Γ (gPair X.K j k) [j, k] ((List.range as.length).zip as) (up2 j k (fun i => .int (i : Nat)) enc) := by
  refine ⟨⟨_, pi_enumT hg hm (pa_sz (ps_cons ha ps_nil hs)) hs2, fun H0 B σ H E R q => ⟨H0, B, E, fun vs ds B' H' x s r sz => ?_⟩⟩⟩
  cases s
  obtain ⟨v, rfl, r1⟩ := (show ∃ v, vs = [v] ∧ Rep _ B' v _ by
    cases r with
    | cons h1 h2 => cases h2; exact ⟨_, rfl, h1⟩)
  obtain ⟨l, us, rfl, hl, hu⟩ := rep_tup r1
  have n1 : us.length = as.length := by rw [dpAll_len hu, List.length_map]
  have z1 := sz.2 _ _ (same_t x.s hl)
  refine ⟨l, us, rfl, same_t x.s hl, q _ B' H' x (feeds_pair (by rw [List.length_zip, List.length_range]; omega) fun B2 H2 b1 b2 => ⟨⟨us, same_t b2 (same_t b1 hl), by rw [List.length_zip, List.length_range]; omega⟩, fun i y hy => ?_⟩)⟩
  obtain ⟨e1, e2⟩ := List.getElem?_zip_eq_some.mp hy
  obtain ⟨u, hu1, ru⟩ := dpAll_get hu (map_get e2)
  refine ⟨⟨us, u, same_t b2 (same_t b1 hl), hu1⟩, fun v H3 yy => ?_⟩
  obtain ⟨T, u', rfl, hT, rfl, f1⟩ := yy
  have eu := Option.some.inj (hu1.symm.trans (f1 us (same_t b2 (same_t b1 hl))))
  subst eu
  obtain ⟨hi, hk⟩ := List.getElem?_eq_some_iff.mp e1
  rw [List.getElem_range] at hk
  refine ⟨T, _, _, rfl, hT, rfl, ?_, dp_mono b1 _ _ ru⟩
  rw [← hk]
  exact Dp.int _

/-! ### t[::-1] -/
theorem pick_turned (xs : Array Value) : ((List.range xs.size).filterMap fun (k : Nat) => xs[(((xs.size : Int) - 1) + (k : Int) * -1).toNat]?).toArray = xs.toList.reverse.toArray := by
  have e : (List.range xs.size).filterMap (fun (k : Nat) => xs[(((xs.size : Int) - 1) + (k : Int) * -1).toNat]?) = ((List.range xs.size).map (fun k => xs.size - 1 - k)).filterMap (xs[·]?) := by
    rw [List.filterMap_map]
    congr 1
    funext k
    show _ = xs[xs.size - 1 - k]?
    rw [show (((xs.size : Int) - 1) + (k : Int) * -1).toNat = xs.size - 1 - k by omega]
  rw [e, PySem.W.krv_range, List.filterMap_reverse, PySem.W.krv_all]
theorem sliceApplied_turned {prog : Program} {w : World} {A : Around} {E : Value → Shared → Prop} {s : Shared} {sl : Addr} {vs : Value} {n : Nat} {Q : Int × Int × Nat → Shared → Prop} (hs : s.heap.IsSliceOf sl .none .none vs) (ps : IsPart vs (some (-1)))
    (h : Q ((n : Int) - 1, -1, n) s) : wpAny (model prog w) A (Builtin.Slice.sliceApplied (.ref sl) (pure (n : Int))) Q E s := by
  obtain ⟨os, hos, hcs, hds⟩ := id hs
  unfold Builtin.Slice.sliceApplied Builtin.Slice.sliceFields
  refine wpAny_bind (wpAny_bind (wpAny_field hos hds (x := .none) rfl (wpAny_bind (wpAny_field hos hds (x := .none) rfl (wpAny_bind (wpAny_field hos hds (x := vs) rfl (wpAny_pure ?_)))))))
  refine wpAny_bind (HT.slicePart_ ps ?_)
  show wpAny _ _ (if ((-1 : Int) == 0) = true then _ else _) _ _ s
  rw [if_neg (by decide)]
  refine wpAny_bind (slicePart_none (wpAny_bind (slicePart_none (wpAny_bind (wpAny_pure ?_)))))
  show wpAny _ _ (match Builtin.Slice.sliceAdjust none none (-1) (n : Int) with | (lo, hi) => pure (lo, (-1 : Int), Builtin.Slice.slicePlaces lo hi (-1))) _ _ s
  have e1 : Builtin.Slice.sliceAdjust none none (-1) (n : Int) = ((n : Int) - 1, -1) := by
    unfold Builtin.Slice.sliceAdjust
    simp
  rw [e1]
  have e2 : Builtin.Slice.slicePlaces ((n : Int) - 1) (-1) (-1) = n := by
    unfold Builtin.Slice.slicePlaces
    have h1 : ¬ ((-1 : Int) > 0) := by decide
    have h2 : ((n : Int) - 1 - -1 - 1) / (- -1) = (n : Int) - 1 := by
      rw [show (- -1 : Int) = 1 by decide, Int.ediv_one]
      omega
    simp only [h1, if_false, h2]
    split <;> omega
  show wpAny _ _ (pure ((n : Int) - 1, (-1 : Int), Builtin.Slice.slicePlaces ((n : Int) - 1) (-1) (-1))) _ _ s
  rw [e2]
  exact wpAny_pure h
theorem getItem_turned {prog : Program} {w : World} {A : Around} {E : Value → Shared → Prop} {s : Shared} {t sl : Addr} {items : Array Value} {vs : Value} {Q : Value → Shared → Prop} (ht : IsTup s.heap t items) (hs : s.heap.IsSliceOf sl .none .none vs) (ps : IsPart vs (some (-1)))
    (h : Q (.ref s.heap.objs.size) { s with heap := s.heap.push { cls := .type "tuple", data := .seq items.toList.reverse.toArray } }) (hsz : items.size ≤ sizeLine) : wpAny (model prog w) A (getItem (.ref t) (.ref sl)) Q E s := by
  have htake : sizeOk (.seq items.toList.reverse.toArray) := by
    show items.toList.reverse.toArray.size ≤ sizeLine
    rw [List.size_toArray, List.length_reverse, Array.length_toList]
    exact hsz
  obtain ⟨os, hos, hcs, hds⟩ := id hs
  have hTs : s.TypeIs (.ref sl) "slice" := ⟨os, hos, hcs⟩
  unfold getItem
  try with_reducible refine wpAny_holding ?_
  first | refine wpAny_bind (wpAny_pure ?_) | skip
  refine wpAny_bind (wpAny_sequenceKey ht.typeIs (by decide) ?_)
  refine wpAny_bind (wpAny_callSpecial?_slot (name := Str.ofString "__getitem__") ht.typeIs PyProof.Rows.slot_tuple_getitem
    (wpAny_call_entry PyProof.Rows.slot_tuple_getitem ht.typeIs entry_tuple_getitem ?_ (args_tuple_getitem _ _)))
  show wpAny _ _ (Builtin.Tuple.tupleItemsOf (.ref t) >>= _) _ _ s
  refine wpAny_bind (tupleItemsOf_ ht ?_)
  refine wpAny_bind (wpAny_typeOf hTs ?_)
  rw [if_pos (by decide)]
  refine wpAny_bind (sliceApplied_turned hs ps ?_)
  have hno : ¬ ((((items.size : Int) - 1) == 0 && (-1 : Int) == 1 && items.size == items.size) = true) := by
    intro q
    rw [Bool.and_eq_true, Bool.and_eq_true] at q
    exact absurd q.1.2 (by decide)
  show wpAny _ _ (if (((items.size : Int) - 1) == 0 && (-1 : Int) == 1 && items.size == items.size) = true then _ else _) _ _ s
  rw [if_neg hno, pick_turned]
  first
    | exact wpAny_bind (m := Builtin.Tuple.tupleExact _) (wpAny_newObj_type (wpAny_pure ⟨_, rfl, wpAny_pure h⟩) htake)
    | exact wpAny_bind (m := Builtin.Tuple.tupleExact _) (wpAny_newObj_type (wpAny_bind (wpAny_pure (wpAny_pure ⟨_, rfl, wpAny_pure h⟩))) htake)
    | exact wpAny_bind (wpAny_bind (m := Builtin.Tuple.tupleExact _) (wpAny_newObj_type (wpAny_pure (wpAny_pure ⟨_, rfl, wpAny_pure h⟩)) htake))
    | exact wpAny_bind (wpAny_bind (m := Builtin.Tuple.tupleExact _) (wpAny_newObj_type (wpAny_pure ⟨_, rfl, wpAny_pure h⟩) htake))
def tTurnT (K : PySem.W.Frag) (te : TE) : TE := fun σ H Q => te σ H fun x H1 => ∃ a xs, x = .ref a ∧ SqT K H1 a xs ∧ ∀ p, H1 p = none → Q (.ref p) (upd H1 p (.tup xs.reverse))
theorem pe_turnT {te : TE} {k : Nat} {p1 p2 p3 pos : Pos} (he : PE X e te) : PE X (.Subscript e (.Slice none none (some (.UnaryOp .USub (.Constant (.int 1) k p1) p2)) p3) pos) (tTurnT X.K te) := by
  refine ⟨fun pins s σ H Q I h => ?_⟩
  refine Subscript_ (thn (he.run pins s σ H _ I h) fun v s1 ⟨x, H1, I1, r1, q1⟩ => ?_)
  obtain ⟨a, xs, ex, hx, q⟩ := q1
  subst ex
  cases r1
  have hst : PO X (some (.UnaryOp .USub (.Constant (.int 1) k p1) p2)) (tPart (tUn (rU fun i => .int (-i)) (tC (.int 1)))) := po_some (pe_un un_neg pe_int)
  refine wpAny_Slice (thn (po_none.run pins s1 σ H1 (fun o H2 => o = none ∧ H2 = H1) I1 ⟨rfl, rfl⟩) fun vl s2 ⟨l, H2, I2, pl, el, e2⟩ => ?_)
  subst el e2
  refine thn (po_none.run pins s2 σ H2 (fun o H3 => o = none ∧ H3 = H2) I2 ⟨rfl, rfl⟩) fun vu s3 ⟨u, H3, I3, pu, eu, e3⟩ => ?_
  subst eu e3
  refine thn (hst.run pins s3 σ H3 (fun o H4 => o = some (-1) ∧ H4 = H3) I3 ⟨1, rfl, -1, rfl, rfl, rfl⟩) fun vs s4 ⟨o, H4, I4, ps, eo, e4⟩ => ?_
  subst eo e4
  cases pl
  cases pu
  have I5 : Inv X pins σ H4 { s4 with heap := s4.heap.push { cls := .type "slice", data := .fields #[.none, .none, vs] } } := I4.kept (t' := s4.toks) fun b ob q => Heap.get?_push_of_some _ q
  obtain ⟨its, r, ht, hz⟩ := I5.tuple hx
  have hlen := r.length
  show wpAny (model X.prog X.w) X.A (subscriptTail e (.Slice none none (some (.UnaryOp .USub (.Constant (.int 1) k p1) p2)) p3) (.ref a) (.ref s4.heap.objs.size)) (EP X pins σ Q) X.xe { s4 with heap := s4.heap.push { cls := .type "slice", data := .fields #[.none, .none, vs] } }
  refine tail_any (ops := [.ref a, .ref s4.heap.objs.size]) ht.typeIs PyProof.Rows.slot_tuple_getitem.lookup ?_ (by with_unfolding_all rfl)
  refine getItem_turned ht (Heap.IsSliceOf.new _ .none .none vs) ps ?_ (by rw [List.size_toArray]; omega)
  refine ⟨.ref _, _, I5.laid (t' := s4.toks) (o := .tup xs.reverse) (fun b ob q => Heap.get?_push_of_some _ q) (Nat.le_refl _) ?_, rfl, q _ (I5.hok.fresh (Nat.le_refl _))⟩
  exact ⟨by rw [List.length_reverse]; omega, _, r.reverse, ⟨_, Heap.get?_push_size _ rfl, rfl, _, rfl⟩⟩
theorem pd_revT {xs : List PyData} {k : Nat} {q1 q2 q3 : Pos} (ha : PE X a (tD (pwOf X) Γ (IsP (.tuple xs)))) : PE X (.Subscript a (.Slice none none (some (.UnaryOp .USub (.Constant (.int 1) k q1) q2)) q3) pos) (tD (pwOf X) Γ (IsP (.tuple xs.reverse))) :=
  pe_mono (pe_turnT ha) fun σ H Q ⟨H0, B, E, q⟩ => ⟨H0, B, E, fun v d B1 H1 e1 s1 r1 => by
    cases s1
    obtain ⟨l, vs, rfl, h3, h4⟩ := rep_tup r1
    refine ⟨l, vs, rfl, same_t e1.s h3, fun p hp => ?_⟩
    have x := Ext.new (o := .tup vs.reverse) e1.s hp
    exact q _ _ _ _ (e1.trans x) rfl (Dp.tup (.of upd_same) (dpAll_mono x.b _ _ (dpAll_rev h4)))⟩
end
end K62
/-! statements: comprehensions stored, list methods, three at once -/
namespace K62
open PySem PySem.Spec PyProof.Rows L2
section
variable {X : Cx} {e a b c tg iter : Expr} {es : List Expr} {pos spos p p1 p2 : Pos} {Γ : List Sl} {κ : Pw} {ι : Type} {as : List ι} {enc : ι → PyData} {x y z : Str} {rest : List Stmt} {po : Po}
/-- y = [elt for .. in .. if ..] on one line, y a plain local -/
theorem ss_setLcS {up : ι → List Sl → List Sl} {S : ι → PyData → Prop} {t : ι → Bool} {g : TG} {ts : List Nat} {elt : Expr} {ifs : List Expr} {scope : Scope} {own : List (Str × Nat)} {tt : TT} {py : Pos} (i : Nat) (hc : X.calm = true) (hN : X.N.Nodup) (src : Src X tg iter Γ g ts as up) (ok : BlkOk X.N X.env.scope scope own)
    (hts : ∀ i ∈ ts, i ∈ own.map (·.2))
    (hg : ∀ (s : Shared) (H : Hp) (C : Addr) (cl : List (Str × Addr)) (fp : List Addr), PG (X.blk s H scope (compEnvC scope cl C X.env) fp) tg g)
    (ht : ∀ (s : Shared) (H : Hp) (C : Addr) (cl : List (Str × Addr)) (fp : List Addr), PTs (X.blk s H scope (compEnvC scope cl C X.env) fp) ifs tt)
    (htt : ∀ a ∈ as, ∀ σ H Q, tT (pwOf X) (up a (wipeG Γ (own.map (·.2)))) (Is (t a)) σ H Q → tt σ H Q)
    (he : ∀ a ∈ as, t a = true → ∀ (s : Shared) (H : Hp) (C : Addr) (cl : List (Str × Addr)) (fp : List Addr), PE (X.blk s H scope (compEnvC scope cl C X.env) fp) elt (tD (pwOf X) (up a (wipeG Γ (own.map (·.2)))) (fun d => ∃ y, S a y ∧ d = .p y)))
    (hr : ∀ ys, Paired S (as.filter t) ys → PSs X rest (tS (pwOf X) (Γ.set i (.own ys)) po))
    (hi : X.N[i]? = some y := by rfl) (hyl : X.env.scope.names.lookup y = some .local := by rfl) (hk : X.env.scope.kind = .function := by rfl) (hl : (py.line == pos.line) = true := by rfl)
    (hapart : (scope.names.any fun (n, k) => n == y && (k == .local || k == .cell)) = false := by rfl)
    (hs : ∀ x, foldedSetIterable iter X.env x = pure x := by intro _; rfl) :
    PSs X (.Assign [.Name y py] (.ListComp elt [⟨tg, iter, ifs, 0⟩] scope pos) spos :: rest) (tS (pwOf X) Γ po) := by
  obtain ⟨wi, hwi, sok⟩ := src.ex
  refine ss_then (C := fun Γ' => ∃ ys, Paired S (as.filter t) ys ∧ Γ' = Γ.set i (.own ys)) (ps_setLc (own := own) hc hN hi hyl (sw_true hk hyl hl hapart) hwi ok hg ht (fun s H C cl fp => pe_any (C := fun a => a ∈ as ∧ t a = true) fun a ha => he a ha.1 ha.2 s H C cl fp) hs) (fun Γ' ⟨ys, h, e⟩ => e ▸ hr ys h) fun D σ H ⟨B0, H0, B, x0, E, q1, q2, q3⟩ => ?_
  refine lc_read sok hts htt σ H _ ⟨H0, B, E, fun a vs ds B' H' x1 hp n1 n2 h3 h4 => ?_⟩
  exact q1 _ _ B' H' ⟨ds, hp, rfl⟩ (x0.trans x1) ((E.ext x1).set (s := .own ds) ⟨a, vs, rfl, E.h0.free n1, n2, h3, h4⟩ (env_own_new (B' := B') (H' := H') E (fun _ l el => by cases el; exact n1) i))
theorem ss_setLc {up : ι → List Sl → List Sl} {f : ι → PyData} {g : TG} {ts : List Nat} {elt : Expr} {scope : Scope} {own : List (Str × Nat)} {py : Pos} (i : Nat) (hc : X.calm = true) (hN : X.N.Nodup) (src : Src X tg iter Γ g ts as up) (ok : BlkOk X.N X.env.scope scope own)
    (hts : ∀ i ∈ ts, i ∈ own.map (·.2))
    (hg : ∀ (s : Shared) (H : Hp) (C : Addr) (cl : List (Str × Addr)) (fp : List Addr), PG (X.blk s H scope (compEnvC scope cl C X.env) fp) tg g)
    (he : ∀ a ∈ as, ∀ (s : Shared) (H : Hp) (C : Addr) (cl : List (Str × Addr)) (fp : List Addr), PE (X.blk s H scope (compEnvC scope cl C X.env) fp) elt (tD (pwOf X) (up a (wipeG Γ (own.map (·.2)))) (IsP (f a))))
    (hr : PSs X rest (tS (pwOf X) (Γ.set i (.own (as.map f))) po))
    (hi : X.N[i]? = some y := by rfl) (hyl : X.env.scope.names.lookup y = some .local := by rfl) (hk : X.env.scope.kind = .function := by rfl) (hl : (py.line == pos.line) = true := by rfl)
    (hapart : (scope.names.any fun (n, k) => n == y && (k == .local || k == .cell)) = false := by rfl)
    (hs : ∀ x, foldedSetIterable iter X.env x = pure x := by intro _; rfl) :
    PSs X (.Assign [.Name y py] (.ListComp elt [⟨tg, iter, [], 0⟩] scope pos) spos :: rest) (tS (pwOf X) Γ po) := by
  refine ss_setLcS (S := fun a y => y = f a) (t := fun _ => true) i hc hN src ok hts hg (fun _ _ _ _ _ => pts_nil) (fun a _ σ H Q ⟨H0, B, E, q⟩ => q true B H (Ext.refl E.sub) rfl) (fun a ha _ s H C cl fp => pd_imp (he a ha s H C cl fp) fun d h => ⟨_, rfl, h⟩) (fun ys h => ?_) hi hyl hk hl hapart hs
  rw [List.filter_eq_self.mpr (fun _ _ => rfl)] at h
  rw [paired_map h]
  exact hr
theorem ss_setLcT {up : ι → List Sl → List Sl} {f : ι → PyData} {t : ι → Bool} {g : TG} {ts : List Nat} {elt tst : Expr} {scope : Scope} {own : List (Str × Nat)} {py : Pos} (i : Nat) (hc : X.calm = true) (hN : X.N.Nodup) (src : Src X tg iter Γ g ts as up) (ok : BlkOk X.N X.env.scope scope own)
    (hts : ∀ i ∈ ts, i ∈ own.map (·.2))
    (hg : ∀ (s : Shared) (H : Hp) (C : Addr) (cl : List (Str × Addr)) (fp : List Addr), PG (X.blk s H scope (compEnvC scope cl C X.env) fp) tg g)
    (ht : ∀ a ∈ as, ∀ (s : Shared) (H : Hp) (C : Addr) (cl : List (Str × Addr)) (fp : List Addr), PT (X.blk s H scope (compEnvC scope cl C X.env) fp) tst (tT (pwOf X) (up a (wipeG Γ (own.map (·.2)))) (Is (t a))))
    (he : ∀ a ∈ as, t a = true → ∀ (s : Shared) (H : Hp) (C : Addr) (cl : List (Str × Addr)) (fp : List Addr), PE (X.blk s H scope (compEnvC scope cl C X.env) fp) elt (tD (pwOf X) (up a (wipeG Γ (own.map (·.2)))) (IsP (f a))))
    (hr : PSs X rest (tS (pwOf X) (Γ.set i (.own ((as.filter t).map f))) po))
    (hi : X.N[i]? = some y := by rfl) (hyl : X.env.scope.names.lookup y = some .local := by rfl) (hk : X.env.scope.kind = .function := by rfl) (hl : (py.line == pos.line) = true := by rfl)
    (hapart : (scope.names.any fun (n, k) => n == y && (k == .local || k == .cell)) = false := by rfl)
    (hs : ∀ x, foldedSetIterable iter X.env x = pure x := by intro _; rfl) :
    PSs X (.Assign [.Name y py] (.ListComp elt [⟨tg, iter, [tst], 0⟩] scope pos) spos :: rest) (tS (pwOf X) Γ po) := by
  have ht' : ∀ (s : Shared) (H : Hp) (C : Addr) (cl : List (Str × Addr)) (fp : List Addr), PT (X.blk s H scope (compEnvC scope cl C X.env) fp) tst (fun σ H Q => ∃ a, a ∈ as ∧ tT (pwOf X) (up a (wipeG Γ (own.map (·.2)))) (Is (t a)) σ H Q) :=
    fun s H C cl fp => ⟨fun pins s' σ H' Q I ⟨a, ha, q⟩ => (ht a ha s H C cl fp).run pins s' σ H' Q I q⟩
  exact ss_setLcS (S := fun a y => y = f a) (t := t) i hc hN src ok hts hg (fun s H C cl fp => pts_one (ht' s H C cl fp)) (fun a ha σ H Q q => ⟨a, ha, q⟩) (fun a ha h1 s H C cl fp => pd_imp (he a ha h1 s H C cl fp) fun d h => ⟨_, rfl, h⟩) (fun ys h => by rw [paired_map h]; exact hr) hi hyl hk hl hapart hs
theorem dpAll_snoc {K : PySem.W.Frag} {B : Hp} {d : PyData} : ∀ {xs : List PyData} {vs : List V}, DpAll K B vs (xs ++ [d]) → ∃ vs' v, vs = vs' ++ [v] ∧ DpAll K B vs' xs ∧ Dp K B v d
  | [], _, h => by
    cases h with
    | cons h1 h2 => cases h2; exact ⟨[], _, rfl, .nil, h1⟩
  | x :: xs, vs, h => by
    have h : DpAll K B vs (x :: (xs ++ [d])) := h
    cases h with
    | cons h1 h2 =>
      obtain ⟨vs', v, rfl, h3, h4⟩ := dpAll_snoc h2
      exact ⟨_ :: vs', v, rfl, .cons h1 h3, h4⟩
/-- x = l.pop() -/
theorem ss_pop (i j : Nat) {xs : List PyData} {d : PyData} {apos cpos : Pos} {px : Pos} (hr : PSs X rest (tS κ ((Γ.set j (.own xs)).set i (.d (.p d))) po)) (hN : X.N.Nodup) (hd : Γ[j]? = some (.own (xs ++ [d])) := by rfl) (hi : X.N[i]? = some x := by rfl) (hj : X.N[j]? = some y := by rfl)
    (hx : Loc X.env.scope x := by first | exact Or.inl rfl | exact Or.inr rfl) (hv : Vis X.env.scope y := by first | exact Or.inl rfl | exact Or.inr (Or.inl rfl) | exact Or.inr (Or.inr rfl)) (h1 : (y == ("__debug__" : Str)) = false := by decide) (h2 : (y == ("__classdict__" : Str)) = false := by decide)
    (hbase : attributeBase (.Name y p1) "pop" X.env (eval (.Name y p1) X.env) = eval (.Name y p1) X.env := by rfl) (hline : (apos.endLine == cpos.line) = true := by rfl)
    (hsw : swapsWith (.Call (.Attribute (.Name y p1) "pop" apos) [] [] cpos) (some (.Name x px)) pos.line X.env = pure false := by rfl) (hf : X.fn x = true := by rfl) :
    PSs X (.Assign [.Name x px] (.Call (.Attribute (.Name y p1) "pop" apos) [] [] cpos) pos :: rest) (tS κ Γ po) := by
  refine ss_then (C := Is ((Γ.set j (.own xs)).set i (.d (.p d)))) (ps_set (i := i) hN hi hx (pe_bm0 PySem.F.plainAttrs_list PySem.F.slot_list_pop PySem.F.type_list_pop mt_pop (pe_var hj hv h1 h2) hbase hline) hsw (.inl hf)) (fun Γ' e => by cases e; exact hr) fun D σ H ⟨B0, H0, B, x0, E, q1, q2, q3⟩ => ?_
  obtain ⟨l, vs, e, a1, a2, a3, a4⟩ := E.own hd
  obtain ⟨vs', v, rfl, h3, h4⟩ := dpAll_snoc a4
  refine ⟨_, e, .inl ⟨rfl, _, .of a3⟩, l, vs' ++ [v], v, rfl, rfl, a3, by simp, ?_⟩
  rw [List.dropLast_concat]
  refine q1 _ _ B _ rfl (x0.mut a1 a2) (((E.mut hd e a1 a2 h3)).setD (x := .p d) h4)
/-- x.insert(i, e) -/
theorem ss_insert (i : Nat) {xs : List PyData} {T : Dd → Prop} {d : PyData} {apos cpos : Pos} (he : PE X a (tD κ Γ T)) (hb : PE X b (tD κ Γ (IsP d))) (hT : ∀ y, T y → ∃ k : Nat, y = .p (.int k) ∧ k ≤ 1000000) (hl : xs.length ≤ 1000000) (hr : ∀ k : Nat, PSs X rest (tS κ (Γ.set i (.own (xs.take k ++ [d] ++ xs.drop k))) po)) (hd : Γ[i]? = some (.own xs) := by rfl) (hN : X.N[i]? = some x := by rfl)
    (hv : Vis X.env.scope x := by first | exact Or.inl rfl | exact Or.inr (Or.inl rfl) | exact Or.inr (Or.inr rfl)) (h1 : (x == ("__debug__" : Str)) = false := by decide) (h2 : (x == ("__classdict__" : Str)) = false := by decide)
    (hbase : attributeBase (.Name x p1) "insert" X.env (eval (.Name x p1) X.env) = eval (.Name x p1) X.env := by rfl)
    (hfew : ((backTo cpos (starEach [a, b] X.env)).all (fun x => !x.1) && (backToKw cpos (keywordEach [] X.env)).all (fun x => x.1.isSome)
      && decide (([a, b] : List Expr).length + ([] : List Keyword).length + (if ([] : List Keyword).isEmpty then 0 else 1) < 30)) = true := by rfl)
    (hline : (apos.endLine == cpos.line) = true := by rfl) (hs : starEach [a, b] X.env = (false, eval a X.env) :: starEach [b] X.env := by rfl) (hs' : starEach [b] X.env = (false, eval b X.env) :: starEach [] X.env := by rfl) (hplain : (backTo cpos (starEach [b] X.env)).any (·.1) = false := by rfl)
    (hsw : swapsWith (.Call (.Attribute (.Name x p1) "insert" apos) [a, b] [] cpos) none pos.line X.env = pure false := by rfl) :
    PSs X (.Expr (.Call (.Attribute (.Name x p1) "insert" apos) [a, b] [] cpos) pos :: rest) (tS κ Γ po) := by
  refine ss_then (C := fun Γ' => ∃ k : Nat, Γ' = Γ.set i (.own (xs.take k ++ [d] ++ xs.drop k))) (ps_expr (pe_bm PySem.F.plainAttrs_list PySem.F.slot_list_insert PySem.F.type_list_insert mt_insert (pe_var hN hv h1 h2) (pa_cons he (pa_cons hb pa_nil hs') hs) hbase hfew hline hs hplain) hsw)
    (fun Γ' ⟨k, e⟩ => e ▸ hr k) fun D σ H ⟨B0, H0, B, x0, E, q1, q2, q3⟩ => ?_
  obtain ⟨l, vs, e, a1, a2, a3, a4⟩ := E.own hd
  refine ⟨_, e, .inl ⟨rfl, vs, .of a3⟩, H0, B, E, fun v dv B1 H1 x1 hT1 r1 => ⟨H0, B1, E.ext x1, fun w dw B2 H2 x2 hT2 r2 => ?_⟩⟩
  obtain ⟨k, rfl, hk⟩ := hT dv hT1
  cases rep_int r1
  cases hT2
  have b2 := (x1.trans x2).o l a2 (by rw [a3]; simp)
  refine ⟨l, vs, (k : Int), w, rfl, rfl, (x1.trans x2).h _ _ a3, by rw [dpAll_len a4, sizeLine_eq]; omega, by omega, by omega, ?_⟩
  rw [Int.toNat_natCast]
  have a4' := dpAll_mono (x1.trans x2).b _ _ a4
  exact q1 _ σ B2 _ ⟨k, rfl⟩ ((x0.trans (x1.trans x2)).mut a1 b2) ((E.ext (x1.trans x2)).mut hd e a1 b2 (dpAll_app (dpAll_app (dpAll_take k a4') (dpAll_one r2)) (dpAll_drop k a4')))
/-- x, y, z = a, b, c -/
theorem ss_par3 (i j l : Nat) {Sa Sb Sc : Sl → Prop} {px py pz pt pt2 : Pos} {kt k2} (hc : X.calm = true) (ha : PE X a (tV κ Γ Sa)) (hb : PE X b (tV κ Γ Sb)) (hd : PE X c (tV κ Γ Sc)) (hr : ∀ s t u, Sa s → Sb t → Sc u → PSs X rest (tS κ (((Γ.set i s).set j t).set l u) po)) (hN : X.N.Nodup) (hi : X.N[i]? = some x := by rfl) (hj : X.N[j]? = some y := by rfl) (hl : X.N[l]? = some z := by rfl) (hij : i ≠ j := by decide) (hil : i ≠ l := by decide) (hjl : j ≠ l := by decide)
    (hx : X.env.scope.names.lookup x = some .local := by rfl) (hy : X.env.scope.names.lookup y = some .local := by rfl) (hz : X.env.scope.names.lookup z = some .local := by rfl) (hs1 : starEach [a, b, c] X.env = (false, eval a X.env) :: starEach [b, c] X.env := by rfl) (hs2 : starEach [b, c] X.env = (false, eval b X.env) :: starEach [c] X.env := by rfl) (hs3 : starEach [c] X.env = (false, eval c X.env) :: starEach [] X.env := by rfl)
    (hw : swappedStores [.Tuple [.Name x px, .Name y py, .Name z pz] kt pt] (.Tuple [a, b, c] k2 pt2) X.env = pure (some [x, y, z]) := by rfl)
    (hs : swapsWithSole [.Tuple [.Name x px, .Name y py, .Name z pz] kt pt] (.Tuple [a, b, c] k2 pt2) pos.line X.env = pure false := by rfl) : PSs X (.Assign [.Tuple [.Name x px, .Name y py, .Name z pz] kt pt] (.Tuple [a, b, c] k2 pt2) pos :: rest) (tS κ Γ po) := by
  refine ss_then (C := fun Γ' => ∃ s t u, (Sa s ∧ Sb t ∧ Sc u) ∧ Γ' = ((Γ.set i s).set j t).set l u) (ps_par3 hc hN hi hj hl hij hil hjl hx hy hz (pa_cons ha (pa_cons hb (pa_cons hd pa_nil hs3) hs2) hs1) hw hs) (fun Γ' ⟨s, t, u, h, e⟩ => e ▸ hr s t u h.1 h.2.1 h.2.2) fun D σ H ⟨B0, H0, B, x0, E, q1, q2, q3⟩ => ?_
  refine ⟨H0, B, E, fun v s B1 H1 x1 hs ok hv => ⟨H0, B1, E.ext x1, fun w t B2 H2 x2 ht ok2 hw2 => ⟨H0, B2, (E.ext x1).ext x2, fun g u B3 H3 x3 hu ok3 hg3 => ⟨v, w, g, rfl, ?_⟩⟩⟩⟩
  have F1 := (E.ext x1).set (i := i) ok (env_own_new (B' := B1) (H' := H1) E hv i)
  have F2 := (F1.ext x2).set (i := j) ok2 (env_own_new (B' := B2) (H' := H2) F1 hw2 j)
  have F3 := (F2.ext x3).set (i := l) ok3 (env_own_new (B' := B3) (H' := H3) F2 hg3 l)
  exact q1 _ _ B3 H3 ⟨s, t, u, ⟨hs, ht, hu⟩, rfl⟩ (((x0.trans x1).trans x2).trans x3) F3
/-- list(range(n)) -/
theorem pn_listR {n : Nat} {pr : Pos} (hc : X.calm = true) (hg : Gl X "list") (hm : X.mg "list" = none) (hgr : Gl X "range") (hmr : X.mg "range" = none) (hn : n ≤ 1000) (ha : PE X a (tD κ Γ (IsI n)))
    (na : starEach [.Call (.Name "range" p) [a] [] pr] X.env = (false, eval (.Call (.Name "range" p) [a] [] pr) X.env) :: starEach [] X.env := by rfl) (na2 : starEach [a] X.env = (false, eval a X.env) :: starEach [] X.env := by rfl) :
    PE X (.Call (.Name "list" p1) [.Call (.Name "range" p) [a] [] pr] [] pos) (tN κ Γ (Is ((List.range n).map fun i => .int (i : Nat)))) :=
  pe_mono (pe_listRg hc hg hm (prg_1 hgr hmr ha na2) na) fun σ H Q ⟨H0, B, E, q⟩ => ⟨H0, B, E, fun v d B1 H1 e1 s1 r1 => by
    cases s1; cases rep_int r1
    refine ⟨n, rfl, RgOk.of_le (by omega) (by omega) (by omega) (by omega), fun l hl => ?_⟩
    refine q l _ _ B1 _ (e1.trans (Ext.hid e1.s hl)) rfl (e1.h.free hl) (e1.s.free hl) upd_same ?_
    have e : rgV 0 (n : Int) = (((List.range n).map fun (i : Nat) => (i : Int)).map V.int) := by
      unfold rgV
      rw [Int.sub_zero, Int.toNat_natCast, List.map_map]
      congr 1
      funext i
      simp
    rw [e, show ((List.range n).map fun (i : Nat) => PyData.int (i : Int)) = ((List.range n).map fun (i : Nat) => (i : Int)).map PyData.int by rw [List.map_map]; rfl]
    exact dpAll_ints _⟩
end
end K62
/-! dicts whose keys are nested tuples -/
namespace K62
open PySem PySem.Spec PyProof.Rows L2

mutual
def nk : PyData → NestedKey
  | .none => .none
  | .bool _ => .none
  | .int i => .num i
  | .str x => .text x
  | .list _ => .none
  | .tuple ds => .tup (nks ds)
  | .dict _ => .none
def nks : List PyData → List NestedKey
  | [] => []
  | d :: ds => nk d :: nks ds
end
mutual
def isNk : PyData → Bool
  | .none => true
  | .bool _ => false
  | .int _ => true
  | .str _ => true
  | .list _ => false
  | .tuple ds => isNks ds
  | .dict _ => false
def isNks : List PyData → Bool
  | [] => true
  | d :: ds => isNk d && isNks ds
end
mutual
theorem nk_data : ∀ d : PyData, isNk d = true → (nk d).data = d
  | .none, _ => rfl
  | .bool _, h => by simp [isNk] at h
  | .int _, _ => rfl
  | .str _, _ => rfl
  | .list _, h => by simp [isNk] at h
  | .tuple ds, h => by
    rw [isNk] at h
    rw [nk, NestedKey.data, nks_data ds h]
  | .dict _, h => by simp [isNk] at h
theorem nks_data : ∀ ds : List PyData, isNks ds = true → NestedKey.datas (nks ds) = ds
  | [], _ => rfl
  | d :: ds, h => by
    rw [isNks, Bool.and_eq_true] at h
    rw [nks, NestedKey.datas, nk_data d h.1, nks_data ds h.2]
end
mutual
theorem nk_of : ∀ k : NestedKey, nk k.data = k ∧ isNk k.data = true
  | .none => ⟨rfl, rfl⟩
  | .num _ => ⟨rfl, rfl⟩
  | .text _ => ⟨rfl, rfl⟩
  | .tup ks => by
    have h := nks_of ks
    rw [NestedKey.data, nk, isNk, h.1]
    exact ⟨rfl, h.2⟩
theorem nks_of : ∀ ks : List NestedKey, nks (NestedKey.datas ks) = ks ∧ isNks (NestedKey.datas ks) = true
  | [] => ⟨rfl, rfl⟩
  | k :: ks => by
    have h1 := nk_of k
    have h2 := nks_of ks
    rw [NestedKey.datas, nks, isNks, h1.1, h1.2, h2.1, h2.2]
    exact ⟨rfl, rfl⟩
end
mutual
theorem nested_of {h : Heap} : ∀ (d : PyData) (u : Value) (as : List Addr), isNk d = true → Reads h u d as → NestedIs h (nk d) u
  | .none, _, _, _, r => by cases r; exact .none
  | .bool _, _, _, e, _ => by simp [isNk] at e
  | .int i, _, _, _, r => by cases r; exact .int _ _
  | .str _, _, _, _, r => by cases r; exact .text _ _
  | .list _, _, _, e, _ => by simp [isNk] at e
  | .tuple ds, _, _, e, r => by
    rw [isNk] at e
    cases r with
    | tuple h1 h2 h3 h4 => exact .tup h1 h2 h3 (nested_all ds _ _ e h4)
  | .dict _, _, _, e, _ => by simp [isNk] at e
theorem nested_all {h : Heap} : ∀ (ds : List PyData) (us : List Value) (as : List Addr), isNks ds = true → ReadsAll h us ds as → NestedAll h (nks ds) us
  | [], _, _, _, r => by cases r; exact .nil
  | d :: ds, _, _, e, r => by
    rw [isNks, Bool.and_eq_true] at e
    cases r with
    | cons h1 h2 => exact .cons (nested_of d _ _ e.1 h1) (nested_all ds _ _ e.2 h2)
end
/-- a key: data made of ints, texts, None and tuples, not deep -/
def KeyD (d : PyData) : Prop := isNk d = true ∧ (nk d).depth ≤ 2 ∧ ∃ ds, d = .tuple ds
theorem keyD_of {K : PySem.W.Frag} {B : Hp} {b : Addr} {x : NestedKey} {d : PyData} (h : x.data = d) (hd : x.depth ≤ 2) (hp : Dp K B (.ref b) d) : KeyD d ∧ nk d = x := by
  subst h
  refine ⟨⟨(nk_of x).2, by rw [(nk_of x).1]; exact hd, ?_⟩, (nk_of x).1⟩
  have h2 := (nk_of x).2
  generalize x.data = d at hp h2
  cases hp with
  | lst _ _ => simp [isNk] at h2
  | tup _ _ => exact ⟨_, rfl⟩
section
variable {X : Cx} {pins : List (Addr × Obj)} {σ : L2.St} {H B : Hp} {s : Shared}
theorem key_at {v : V} {u : Value} {d : PyData} (I : Inv X pins σ H s) (h : Dp X.K H v d) (r : RelV v u) (hk : KeyD d) : NestedIs s.heap (nk d) u ∧ (nk d).depth ≤ 8 := by
  obtain ⟨as, q⟩ := Dp.reads I d v u h r
  exact ⟨nested_of d u as hk.1 q, by have := hk.2.1; omega⟩
theorem keys_at (I : Inv X pins σ H s) (e : Same B H) : ∀ {xs : List NkT} {ys : List (NestedKey × Addr × Value)} {kvs : List (PyData × PyData)}, Paired relN xs ys → Paired (entD X.K B) xs kvs → ∀ y ∈ ys, (nestedKind X.prog X.w).is s.heap y.1 y.2.1
  | _, _, _, .nil, _ => fun y hy => by cases hy
  | _, _, _, .cons h1 h2, .cons k1 k2 => fun y hy => by
    rcases List.mem_cons.mp hy with z | z
    · subst z
      obtain ⟨q1, q2, q3, q4⟩ := k1
      obtain ⟨kd, en⟩ := keyD_of q1 q2 q3
      have := key_at I (dp_mono e _ _ q3) (show RelV (.ref _) (.ref _) from rfl) kd
      rw [en] at this
      rw [← h1.1, ← h1.2.1]
      exact this
    · exact keys_at I e h2 k2 y z
/-- the dict itself -/
theorem dic_at {a : Addr} {xs : List NkT} {kvs : List (PyData × PyData)} (I : Inv X pins σ H s) (hH : H a = some (dicO X.prog X.w a xs)) (e : Same B H) (hk : Paired (entD X.K B) xs kvs) :
    ∃ ys, Paired relN xs ys ∧ s.heap.DictOfH (nestedKind X.prog X.w) a ys ∧ (a == sysModules) = false ∧ xs.length ≤ sizeLine := by
  obtain ⟨⟨hz, hs, ys, rel, o, es, ep, ho, hx, hd, he, hn⟩, _, _⟩ := (show ObjOk X.prog X.w H s.heap a (dicO X.prog X.w a xs) from I.hok a _ hH)
  exact ⟨ys, rel, ⟨o, es, ep, ho, hx, hd, he, keys_at I e rel hk, hn⟩, hs, hz⟩
theorem rel_at {k : NestedKey} : ∀ {xs : List NkT} {ys : List (NestedKey × Addr × Value)}, Paired relN xs ys → ((∃ x ∈ xs, x.1 = k) ↔ (atKey ys k).isSome = true) := by
  intro xs ys r
  induction r with
  | nil => simp [atKey]
  | @cons x y xs ys h t ih =>
    unfold atKey at ih ⊢
    rw [List.find?_cons]
    by_cases hc : y.1 = k
    · simp [hc]; exact .inl (h.1.trans hc)
    · rw [decide_eq_false hc]
      rw [← ih]
      simp only [List.mem_cons, exists_eq_or_imp]
      constructor
      · rintro (z | z)
        · exact absurd (h.1.symm.trans z) hc
        · exact z
      · exact .inr
theorem ent_keys {k : PyData} (hk : KeyD k) : ∀ {xs : List NkT} {kvs : List (PyData × PyData)}, Paired (entD X.K B) xs kvs → ((∃ x ∈ xs, x.1 = nk k) ↔ k ∈ kvs.map (·.1)) := by
  intro xs kvs r
  induction r with
  | nil => simp
  | @cons x kv xs kvs h t ih =>
    have e : x.1 = nk k ↔ k = kv.1 := by
      obtain ⟨kd, en⟩ := keyD_of h.1 h.2.1 h.2.2.1
      constructor
      · intro z
        rw [← h.1, z, nk_data k hk.1]
      · rintro rfl
        exact en.symm
    simp only [List.mem_cons, exists_eq_or_imp, List.map_cons]
    rw [e, ih]
/-- what stands behind a key -/
theorem ent_val {k d : PyData} (hk : KeyD k) : ∀ {xs : List NkT} {ys : List (NestedKey × Addr × Value)} {kvs : List (PyData × PyData)}, Paired relN xs ys → Paired (entD X.K B) xs kvs → (ys.map (·.1)).Nodup → (k, d) ∈ kvs → ∃ p v, atKey ys (nk k) = some p ∧ RelV v p.2 ∧ Dp X.K B v d := by
  intro xs ys kvs r
  induction r generalizing kvs with
  | nil => intro h; cases h; intro _ h; cases h
  | @cons x y xs ys h t ih =>
    intro h2 hn hm
    cases h2 with
    | @cons _ kv _ kvs' k1 k2 =>
      rw [List.map_cons, List.nodup_cons] at hn
      unfold atKey at ih ⊢
      rw [List.find?_cons]
      rcases List.mem_cons.mp hm with z | z
      · subst z
        obtain ⟨_, en⟩ := keyD_of k1.1 k1.2.1 k1.2.2.1
        have e : y.1 = nk k := by rw [← h.1]; exact en.symm
        rw [decide_eq_true e]
        exact ⟨_, x.2.2, rfl, h.2.2, k1.2.2.2⟩
      · have hne : y.1 ≠ nk k := fun e => hn.1 (by
          obtain ⟨p, v, e1, _⟩ := ih k2 hn.2 z
          obtain ⟨q, hq, _⟩ := Option.map_eq_some_iff.mp e1
          have h1 := List.find?_some hq
          have h2 := List.mem_of_find?_eq_some hq
          rw [e, ← of_decide_eq_true h1]
          exact List.mem_map_of_mem h2)
        rw [decide_eq_false hne]
        exact ih k2 hn.2 z
end

/-- a dict to be read -/
def tM (κ : Pw) (Γ : List Sl) (kvs : List (PyData × PyData)) : TE := fun σ H Q => ∃ H0 B, Env κ H0 B H σ Γ ∧ ∀ a xs B' H', Ext B H B' H' → H' a = some (dicO κ.P κ.w a xs) → Paired (entD κ.K B') xs kvs → Q (.ref a) H'
section
variable {X : Cx} {e a b c : Expr} {es : List Expr} {pos spos p p1 p2 : Pos} {Γ : List Sl} {κ : Pw} {x y z : Str} {rest : List Stmt} {po : Po} {kvs : List (PyData × PyData)} {k d : PyData}
theorem pm_own (i : Nat) (hd : Γ[i]? = some (.owd kvs) := by rfl) (hN : X.N[i]? = some x := by rfl) (hv : Vis X.env.scope x := by first | exact Or.inl rfl | exact Or.inr (Or.inl rfl) | exact Or.inr (Or.inr rfl)) (h1 : (x == ("__debug__" : Str)) = false := by decide)
    (h2 : (x == ("__classdict__" : Str)) = false := by decide) : PE X (.Name x pos) (tM κ Γ kvs) := pe_mono (pe_var hN hv h1 h2) fun σ H Q ⟨H0, B, E, q⟩ => by
  obtain ⟨l, xs, e, h3, h4, h5, h6⟩ := E.owd hd
  exact ⟨_, e, q l xs B H (Ext.refl E.sub) h5 h6⟩
theorem pm_d (h : PE X e (tD κ Γ (Is (.dic kvs)))) : PE X e (tM κ Γ kvs) := pe_mono h fun σ H Q ⟨H0, B, E, q⟩ => ⟨H0, B, E, fun v d B' H' x s r => by
  cases s
  obtain ⟨a, xs, rfl, h1, h2⟩ := r
  exact q a xs B' H' x (x.s a _ h1) h2⟩
theorem key_ref {K : PySem.W.Frag} {B : Hp} {v : V} {u : Value} {d : PyData} (h : Dp K B v d) (r : RelV v u) (hk : KeyD d) : ∃ c, u = .ref c := by
  obtain ⟨_, _, ds, rfl⟩ := hk
  cases h with
  | tup _ _ => cases r; exact ⟨_, rfl⟩
/-- k in m, k not in m -/
def rInM (κ : Pw) (neg : Bool) : R2 := fun x y H Q => ∃ B k a xs kvs b, Same B H ∧ Dp κ.K B x k ∧ KeyD k ∧ y = .ref a ∧ H a = some (dicO κ.P κ.w a xs) ∧ Paired (entD κ.K B) xs kvs ∧ (b = true ↔ k ∈ kvs.map (·.1)) ∧ Q (.bl (if neg then !b else b)) H
theorem room8 {n : Nat} {A : Around} (hr : Room n A) (P : Program) (w : World) : (nestedKind P w).room A.in1 := by
  show A.units + 1 + 8 < cLine
  have := hr.un
  omega
theorem op_inM {n : Nat} (hr : Room n X.A) : OpR X (compareOp .In) (rInM (pwOf X) false) := by
  intro pins s σ H x y v u Q I rx ry ⟨B, k, a, xs, kvs, b, e, hk, kd, ey, ha, hp, hb, q⟩
  subst ey
  cases ry
  obtain ⟨ys, rel, hm, hs, hz⟩ := dic_at I ha e hp
  have hkey := key_at I (dp_mono e _ _ hk) rx kd
  obtain ⟨c, rfl⟩ := key_ref hk rx kd
  refine wpAny_in_heap (room8 hr _ _) hkey hs hm ?_
  have e1 : (atKey ys (nk k)).isSome = b := by
    have := (rel_at (k := nk k) rel).symm.trans ((ent_keys (X := X) kd hp).trans hb.symm)
    cases b <;> cases h : (atKey ys (nk k)).isSome <;> simp_all
  exact ⟨.bl b, H, I.tok _, by rw [e1]; rfl, q⟩
end
end K62
/-! dicts whose keys are nested tuples: what is done with them -/
namespace K62
open PySem PySem.Spec PyProof.Rows L2
section
variable {X : Cx} {e a b c : Expr} {es : List Expr} {pos spos p p1 p2 : Pos} {Γ : List Sl} {κ : Pw} {x y z : Str} {rest : List Stmt} {po : Po} {kvs : List (PyData × PyData)} {k d : PyData} {n : Nat}
theorem op_notInM (hr : Room n X.A) : OpR X (compareOp .NotIn) (rInM (pwOf X) true) := by
  intro pins s σ H x y v u Q I rx ry ⟨B, k, a, xs, kvs, b, e, hk, kd, ey, ha, hp, hb, q⟩
  subst ey
  cases ry
  obtain ⟨ys, rel, hm, hs, hz⟩ := dic_at I ha e hp
  have hkey := key_at I (dp_mono e _ _ hk) rx kd
  obtain ⟨c, rfl⟩ := key_ref hk rx kd
  show wpAny _ _ (do return Value.bool (!(← contains (.ref a) (.ref c))) : Sem Value) _ _ s
  refine wpAny_bind (wpAny_contains_heap (room8 hr _ _) hkey hs hm (wpAny_pure ?_))
  have e1 : (atKey ys (nk k)).isSome = b := by
    have := (rel_at (k := nk k) rel).symm.trans ((ent_keys (X := X) kd hp).trans hb.symm)
    cases b <;> cases h : (atKey ys (nk k)).isSome <;> simp_all
  exact ⟨.bl (!b), H, I.tok _, by rw [e1]; rfl, q⟩
theorem inM_read {neg : Bool} {bb : Bool} (kd : KeyD k) (hb : bb = true ↔ k ∈ kvs.map (·.1)) : ∀ σ H Q, tD κ Γ (IsB (if neg then !bb else bb)) σ H Q → tOp (rInM κ neg) (tD κ Γ (IsP k)) (tM κ Γ kvs) σ H Q := fun σ H Q ⟨H0, B, E, q⟩ =>
  ⟨H0, B, E, fun v d B1 H1 e1 s1 r1 => ⟨H0, B1, E.ext e1, fun a xs B2 H2 e2 h1 h2 => by
    cases s1
    exact ⟨B2, k, a, xs, kvs, bb, e2.s, dp_mono e2.b _ _ r1, kd, rfl, h1, h2, hb, q _ _ B2 H2 (e1.trans e2) rfl (Dp.bl _)⟩⟩⟩
theorem ptc_notInM {bb : Bool} (hr : Room n X.A) (kd : KeyD k) (hb : bb = true ↔ k ∈ kvs.map (·.1)) (ha : PE X a (tD (pwOf X) Γ (IsP k))) (hm : PE X b (tM (pwOf X) Γ kvs)) (hmk : behindInMarks .NotIn b = false := by rfl) : PT X (.Compare a [.NotIn] [b] pos) (tT (pwOf X) Γ (Is (!bb))) :=
  pt_mono (pt_cmpR (op_notInM hr) ha hm hmk) fun σ H Q ⟨H0, B, E, q⟩ => inM_read (neg := true) kd hb σ H _ ⟨H0, B, E, fun v d B' H' e s r => by
    cases s; cases rep_bool r
    exact ⟨_, rfl, q _ B' H' e rfl⟩⟩
/-- m[k] -/
def rIxM (κ : Pw) : R2 := fun x y H Q => ∃ B k a xs kvs, x = .ref a ∧ Same B H ∧ Dp κ.K B y k ∧ KeyD k ∧ H a = some (dicO κ.P κ.w a xs) ∧ Paired (entD κ.K B) xs kvs ∧ ∃ d, (k, d) ∈ kvs ∧ ∀ v, Dp κ.K B v d → Q v H
theorem ix_M (hr : Room n X.A) : IxR X (rIxM (pwOf X)) := by
  intro value slice pins s σ H x y v u Q I rx ry ⟨B, k, a, xs, kvs, ex, e, hk, kd, ha, hp, d, hm, q⟩ hs
  subst ex
  cases rx
  obtain ⟨ys, rel, hd, hsm, hz⟩ := dic_at I ha e hp
  have hkey := key_at I (dp_mono e _ _ hk) ry kd
  obtain ⟨c, rfl⟩ := key_ref hk ry kd
  obtain ⟨_, _, _, _, _, _, _, _, hn⟩ := id hd
  obtain ⟨pr, w, e1, e2, e3⟩ := ent_val (X := X) kd rel hp hn hm
  have fin : EP X pins σ Q pr.2 { s with toks := s.toks + (nestedKind X.prog X.w).draws (nk k) } := ⟨w, H, I.tok _, e2, q w e3⟩
  exact tail_any (ops := [.ref a, .ref c]) hd.typeIs F.slot_dict_getitem.lookup (wpAny_getItem_heap (room8 hr _ _) hkey hd e1 fin) hs
theorem pd_ixM {d : PyData} (hr : Room n X.A) (kd : KeyD k) (hm : (k, d) ∈ kvs) (hn : ∀ d', (k, d') ∈ kvs → d' = d) (ha : PE X a (tM (pwOf X) Γ kvs)) (hb : PE X b (tD (pwOf X) Γ (IsP k))) (hs : PlainIx b := by intro _ _; rfl) : PE X (.Subscript a b pos) (tD (pwOf X) Γ (IsP d)) :=
  pe_mono (pe_ix (ix_M hr) ha hb hs) fun σ H Q ⟨H0, B, E, q⟩ => ⟨H0, B, E, fun l xs B1 H1 e1 h1 h2 => ⟨H0, B1, E.ext e1, fun w y B2 H2 e2 s2 r2 => by
    cases s2
    exact ⟨B2, k, l, xs, kvs, rfl, e2.s, r2, kd, e2.h _ _ h1, ent_mono e2.b h2, d, hm, fun v hv => q v _ B2 H2 (e1.trans e2) rfl hv⟩⟩⟩
/-- m[k] = e, k new -/
def rSetM (κ : Pw) : TSet := fun o i v H Q => ∃ B k a xs kvs d, o = .ref a ∧ Same B H ∧ Dp κ.K B i k ∧ Dp κ.K B v d ∧ KeyD k ∧ H a = some (dicO κ.P κ.w a xs) ∧ Paired (entD κ.K B) xs kvs ∧ k ∉ kvs.map (·.1) ∧ xs.length < 1000000 ∧
  ∀ c, i = .ref c → Q (upd H a (dicO κ.P κ.w a (xs ++ [(nk k, c, v)])))
theorem paired_snoc {α β : Type} {R : α → β → Prop} {x : α} {y : β} {xs : List α} {ys : List β} (h : Paired R xs ys) (hx : R x y) : Paired R (xs ++ [x]) (ys ++ [y]) := paired_app h (.cons hx .nil)
theorem set_M (hr : Room n X.A) : PSet X (rSetM (pwOf X)) := by
  intro pins s σ H o i v ov iv u Q I ro ri rv ⟨B, k, a, xs, kvs, d, eo, e, hk, hd, kd, ha, hp, hnew, hl, q⟩
  subst eo
  cases ro
  obtain ⟨ys, rel, hm, hsm, hz⟩ := dic_at I ha e hp
  have hkey := key_at I (dp_mono e _ _ hk) ri kd
  obtain ⟨c, rfl⟩ := key_ref hk ri kd
  have hi : i = .ref c := by
    obtain ⟨_, _, ds, rfl⟩ := kd
    cases hk with
    | tup _ _ => cases ri; rfl
  subst hi
  have hnone : atKey ys (nk k) = none := by
    cases h : atKey ys (nk k) with
    | none => rfl
    | some p =>
      have := (rel_at (k := nk k) rel).mpr (by rw [h]; rfl)
      exact absurd ((ent_keys (X := X) kd hp).mp this) hnew
  have hylen : ys.length = xs.length := (paired_len rel).symm
  refine wpAny_setItem_heap (hsz := by rw [hylen, sizeLine_eq]; omega) (room8 hr _ _) hkey hm fun h' hm' hs' => ⟨_, ?_, q c rfl⟩
  rw [storedH_new hnone] at hm'
  obtain ⟨o2, es, ep, ho, hx, hdt, he, _, hn⟩ := hm'
  have st : ∀ h1 h2 : Heap, dicF X.prog X.w a (xs ++ [(nk k, c, v)]) h1 → (∀ o, h1.get? a = some o → h2.get? a = some o) → dicF X.prog X.w a (xs ++ [(nk k, c, v)]) h2 := fun h1 h2 ⟨z1, z2, zs, zr, o, es, ep, z3, z4⟩ hk => ⟨z1, z2, zs, zr, o, es, ep, hk o z3, z4⟩
  refine I.write (x := a) (e := a) (t' := s.toks + (nestedKind X.prog X.w).draws (nk k)) (by rw [ha]; exact trivial) (.inl rfl) (fun b u hb hu => (hs'.2 b hb).trans hu) ⟨_, ho⟩ ?_
  exact ⟨⟨by rw [List.length_append, sizeLine_eq]; simp; omega, hsm, _, paired_snoc rel ⟨rfl, rfl, rv⟩, o2, es, ep, ho, hx, hdt, he, hn⟩, ⟨_, ho⟩, st⟩
theorem ss_putM (i : Nat) {d : PyData} {tpos : Pos} (hr : Room n X.A) (kd : KeyD k) (hnew : k ∉ kvs.map (·.1)) (hl : kvs.length < 1000000) (he : PE X e (tD (pwOf X) Γ (IsP d))) (hk : PE X a (tD (pwOf X) Γ (IsP k))) (hrest : PSs X rest (tS (pwOf X) (Γ.set i (.owd (kvs ++ [(k, d)]))) po)) (hd : Γ[i]? = some (.owd kvs) := by rfl) (hN : X.N[i]? = some x := by rfl)
    (hv : Vis X.env.scope x := by first | exact Or.inl rfl | exact Or.inr (Or.inl rfl) | exact Or.inr (Or.inr rfl)) (h1 : (x == ("__debug__" : Str)) = false := by decide) (h2 : (x == ("__classdict__" : Str)) = false := by decide)
    (hs : swapsWithSole [.Subscript (.Name x p1) a tpos] e pos.line X.env = pure false := by rfl) (hw : swappedStores [.Subscript (.Name x p1) a tpos] e X.env = pure none := by rfl)
    (hone : (assignEach [.Subscript (.Name x p1) a tpos] X.env).map (·.2) = [assign (.Subscript (.Name x p1) a tpos) X.env] := by rfl)
    (hasg : ∀ v, assign (.Subscript (.Name x p1) a tpos) X.env v = (do
      let ov ← holding [v] (eval (.Name x p1) X.env)
      let iv ← holding [v, ov] (eval a X.env)
      standAt tpos
      holding [v, ov, iv] (setItem ov iv v)
      release [v, ov, iv] []) := by intro _; rfl) :
    PSs X (.Assign [.Subscript (.Name x p1) a tpos] e pos :: rest) (tS (pwOf X) Γ po) := by
  refine ss_then (C := Is (Γ.set i (.owd (kvs ++ [(k, d)])))) (ps_asg he (pg_sub (pe_var hN hv h1 h2) hk (set_M hr) hasg) hs hw hone) (fun Γ' e => by cases e; exact hrest) fun D σ H ⟨B0, H0, B, x0, E, q1, q2, q3⟩ => ?_
  refine ⟨H0, B, E, fun v dd B1 H1 e1 s1 r1 => ?_⟩
  cases s1
  obtain ⟨l, xs, el, a1, a2, a3, a4⟩ := (E.ext e1).owd hd
  refine ⟨_, el, H0, B1, E.ext e1, fun w dk B2 H2 e2 s2 r2 => ?_⟩
  cases s2
  have b2 := e2.o l a2 (by rw [a3]; simp)
  have a3' := e2.h _ _ a3
  refine ⟨B2, k, l, xs, kvs, d, rfl, e2.s, r2, dp_mono e2.b _ _ r1, kd, a3', ent_mono e2.b a4, hnew, by rw [paired_len a4]; exact hl, fun c ec => ?_⟩
  subst ec
  refine q1 _ σ B2 _ rfl ((x0.trans (e1.trans e2)).mut a1 b2) (((E.ext e1).ext e2).mutD hd el a1 b2 (paired_snoc (ent_mono e2.b a4) ?_))
  exact ⟨nk_data k kd.1, kd.2.1, r2, dp_mono e2.b _ _ r1⟩
end
end K62
/-! displays, len, list and sorted of such dicts -/
namespace K62
open PySem PySem.Spec PyProof.Rows L2

mutual
theorem reads_nil {h : Heap} : ∀ (d : PyData) (u : Value) (as : List Addr), isNk d = true → Reads h u d as → as = []
  | .none, _, _, _, r => by cases r; rfl
  | .bool _, _, _, e, _ => by simp [isNk] at e
  | .int i, _, _, _, r => by cases r; rfl
  | .str _, _, _, _, r => by cases r; rfl
  | .list _, _, _, e, _ => by simp [isNk] at e
  | .tuple ds, _, _, e, r => by
    rw [isNk] at e
    cases r with
    | tuple h1 h2 h3 h4 => exact reads_nilA ds _ _ e h4
  | .dict _, _, _, e, _ => by simp [isNk] at e
theorem reads_nilA {h : Heap} : ∀ (ds : List PyData) (us : List Value) (as : List Addr), isNks ds = true → ReadsAll h us ds as → as = []
  | [], _, _, _, r => by cases r; rfl
  | d :: ds, _, _, e, r => by
    rw [isNks, Bool.and_eq_true] at e
    cases r with
    | cons h1 h2 => rw [reads_nil d _ _ e.1 h1, reads_nilA ds _ _ e.2 h2]; rfl
end
/-- sorted(v), v collected anyhow -/
theorem sorted_from {P : Program} {w : World} {A : Around} {E : Value → Shared → Prop} {s : Shared} {v : Value} {β : Type} {enc : β → PyData} {R : Value → β → Prop} {Q : Value → Shared → Prop}
    (hcol : wpAny (model P w) A.in1 (collect v) (fun items s1 => ∃ bs : List β, PySem.W.EachIs (fun u b => R u b ∧ isNk (enc b) = true ∧ ∃ as, Reads s1.heap u (enc b) as) items bs ∧ PySem.W.AllAlike (bs.map enc) ∧ PySem.W.Sortable (bs.map enc) ∧ bs.length ≤ 1000000 ∧ (∀ b ∈ bs, (enc b).depth ≤ 20) ∧
      ∀ (out : List Value) (h' : Heap) c, (∀ b o, s1.heap.get? b = some o → h'.get? b = some o) → h'.get? s1.heap.objs.size = some (seqObj "list" out.toArray c) → out.length = bs.length → PySem.W.EachIs R out (bs.mergeSort (PySem.W.dataLe false enc)) → Q (.ref s1.heap.objs.size) { s1 with heap := h' }) E s)
    (hu : A.units + 30 < cLine) : wpAny (model P w) A (call (.builtin "sorted") [v]) Q E s := by
  refine Calls.call_function_entry kind_sorted plain_sorted entry_sorted (args_sorted1 _) ?_
  unfold Builtin.«sorted»
  refine wpAny_bind (m := checkCount "sorted" 1 1 _) (wpAny_pure ?_)
  refine wpAny_bind (wpAny_mono hcol (fun items s1 ⟨bs, hE, hal, hk, hlen, hdep, hQ⟩ => ?_) fun _ _ x => x)
  have hl : items.length = bs.length := hE.length
  refine wpAny_bind (wpAny_newList ?_ (by rw [hl, sizeLine_eq]; omega))
  have hoL : (s1.heap.push (seqObj "list" items.toArray 0)).get? s1.heap.objs.size = some (seqObj "list" items.toArray 0) := Heap.get?_push_size _ rfl
  have k0 : ∀ b o, s1.heap.get? b = some o → (s1.heap.push (seqObj "list" items.toArray 0)).get? b = some o := fun b o e => Heap.get?_push_of_some _ e
  refine wpAny_bind (wpAny_holding (PySem.W.list_sort_data (s := { s1 with heap := s1.heap.push (seqObj "list" items.toArray 0) }) (enc := enc) hoL (hE.mono fun u b h => h.1) (hE.mono fun u b ⟨_, hn, as, r⟩ => ⟨as, PyProof.Rows.Reads.keeps k0 r, by rw [reads_nil _ _ _ hn r]; simp⟩) hal hk (by rw [sizeLine_eq]; omega) (fun b hb => by have := hdep b hb; show A.units + 1 + 1 + _ < _; omega) fun out ho hO => ?_))
  obtain ⟨c, hc⟩ := sortedHeap_at (vs := items) (out := List.toArray out) hoL
  refine wpAny_pure ⟨_, rfl, hQ out _ c (fun b o e => ?_) hc ho hO⟩
  have hlt := Heap.lt_size e
  show (sortedHeap (s1.heap.push (seqObj "list" items.toArray 0)) s1.heap.objs.size items out.toArray).get? b = some o
  rw [sortedHeap_old (Nat.ne_of_lt hlt) (by rw [size_push']; exact Nat.lt_succ_of_lt hlt)]
  exact k0 b o e
section
variable {X : Cx} {e a b c : Expr} {es : List Expr} {pos spos p p1 p2 : Pos} {Γ : List Sl} {κ : Pw} {x y z : Str} {rest : List Stmt} {po : Po} {kvs : List (PyData × PyData)} {k d : PyData} {n : Nat}
/-! ### {k: v} -/
def tKV (κ : Pw) (Γ : List Sl) (k d : PyData) : TE := fun σ H Q => ∃ H0 B, Env κ H0 B H σ Γ ∧ ∀ l xs B' H', Ext B H B' H' → H l = none → B' l = none → H' l = some (dicO κ.P κ.w l xs) → Paired (entD κ.K B') xs [(k, d)] → Q (.ref l) H'
theorem dicO_ok {P : Program} {w : World} {H : Hp} {h : Heap} {l : Addr} {xs : List NkT} (hd : dicF P w l xs h) : ObjOk P w H h l (dicO P w l xs) := by
  have st : ∀ h1 h2 : Heap, dicF P w l xs h1 → (∀ o, h1.get? l = some o → h2.get? l = some o) → dicF P w l xs h2 := fun h1 h2 ⟨z1, z2, zs, zr, o, es, ep, z3, z4⟩ hk => ⟨z1, z2, zs, zr, o, es, ep, hk o z3, z4⟩
  have ⟨_, _, _, _, o, _, _, z3, _⟩ := hd
  exact ⟨hd, ⟨o, z3⟩, st⟩
theorem pe_dictKV (hr : Room n X.A) (kd : KeyD k) (ha : PE X a (tD (pwOf X) Γ (IsP k))) (hb : PE X b (tD (pwOf X) Γ (IsP d))) : PE X (.Dict [some a] [b] pos) (tKV (pwOf X) Γ k d) := by
  refine ⟨fun pins s σ H Q I ⟨H0, B, E, q⟩ => ?_⟩
  have hn := I.hok.fresh (Nat.le_refl s.heap.objs.size)
  have hsm : (s.heap.objs.size == sysModules) = false := beq_eq_false_iff_ne.mpr (Ne.symm (Nat.ne_of_lt I.big))
  have hnew : dicF X.prog X.w s.heap.objs.size [] (s.heap.push { cls := .type "dict", data := .dict #[] }) := ⟨Nat.zero_le _, hsm, [], .nil, _, #[], 0, Heap.get?_push_size _ rfl, ⟨rfl, rfl, rfl⟩, rfl, rfl, List.nodup_nil⟩
  have I1 := I.laid (a := s.heap.objs.size) (o := dicO X.prog X.w s.heap.objs.size []) (h' := s.heap.push { cls := .type "dict", data := .dict #[] }) (t' := s.toks) (fun _ _ q => Heap.get?_push_of_some _ q) (Nat.le_refl _) (dicO_ok hnew)
  have x0 := Ext.hid (o := dicO X.prog X.w s.heap.objs.size []) E.sub hn
  have hu : (nestedKind X.prog X.w).room X.A := by
    show X.A.units + 8 < cLine
    have := hr.un
    omega
  rw [arm_eval_Dict, zip_pairTrees [some a] [b] X.env pos rfl rfl, dictDisplay_pairs (pairTrees [some a] [b] X.env pos) (by simp [pairTrees]) (by simp [pairTrees])]
  refine wpAny_bind (wpAny_standAt (wpAny_bind (wpAny_subDictH (knd := nestedKind X.prog X.w) hu (by simp [pairTrees]) ?_)))
  refine pairTrees_cons_walk (thn (ha.run pins _ σ _ (fun v H1 => ∃ B1, Ext B (upd H s.heap.objs.size (dicO X.prog X.w s.heap.objs.size [])) B1 H1 ∧ Dp X.K B1 v k) I1 ⟨H0, B, E.ext x0, fun v dv B1 H1 e1 s1 r1 => ⟨B1, e1, by cases s1; exact r1⟩⟩) fun u s1 ⟨v, H1, I2, ru, B1, e1, r1⟩ => ?_)
  refine thn (hb.run pins s1 σ H1 (fun w H2 => ∃ B2, Ext B1 H1 B2 H2 ∧ Dp X.K B2 w d) I2 ⟨H0, B1, (E.ext x0).ext e1, fun w dw B2 H2 e2 s2 r2 => ⟨B2, e2, by cases s2; exact r2⟩⟩) fun u2 s2 ⟨w, H2, I3, ru2, B2, e2, r2⟩ => ?_
  refine pairTrees_nil_walk ?_
  have e12 := e1.trans e2
  have hl2 : H2 s.heap.objs.size = some (dicO X.prog X.w s.heap.objs.size []) := e12.h _ _ upd_same
  have hB2 : B2 s.heap.objs.size = none := e12.o _ (E.sub.free hn) (by rw [upd_same]; simp)
  obtain ⟨ys, rel, hm, _, _⟩ := dic_at (B := B2) I3 hl2 e12.s .nil
  cases rel
  have hkey := key_at I3 (dp_mono (e2.b.trans e2.s) _ _ r1) ru kd
  obtain ⟨c, rfl⟩ := key_ref r1 ru kd
  have hv : v = .ref c := by
    obtain ⟨_, _, ds, rfl⟩ := kd
    cases r1 with
    | tup _ _ => cases ru; rfl
  subst hv
  refine ⟨[(nk k, c, u2)], ⟨rfl, rfl, hkey, trivial⟩, hm, fun h' tk hm' hs' => wpAny_pure ?_⟩
  have hst : storedAllH [] [(nk k, c, u2)] = [(nk k, c, u2)] := rfl
  rw [hst] at hm'
  obtain ⟨o2, es, ep, ho, hx, hdt, he, _, hnd⟩ := hm'
  have hnew2 : dicF X.prog X.w s.heap.objs.size [(nk k, c, w)] h' := ⟨by rw [sizeLine_eq]; simp, hsm, _, .cons ⟨rfl, rfl, ru2⟩ .nil, o2, es, ep, ho, hx, hdt, he, hnd⟩
  have I4 := I3.write (x := s.heap.objs.size) (e := s.heap.objs.size) (o := dicO X.prog X.w s.heap.objs.size [(nk k, c, w)]) (t' := tk) (by rw [hl2]; exact trivial) (.inl rfl) (fun b u hb hu => (hs'.2 b hb).trans hu) ⟨_, ho⟩ (dicO_ok hnew2)
  refine ⟨.ref s.heap.objs.size, _, I4, rfl, q _ _ B2 _ ((x0.trans e12).mut hn hB2) hn hB2 upd_same (.cons ⟨nk_data k kd.1, kd.2.1, dp_mono e2.b _ _ r1, r2⟩ .nil)⟩
theorem pv_dict (h : PE X e (tKV κ Γ k d)) : PE X e (tV κ Γ (Is (.owd [(k, d)]))) := pe_mono h fun σ H Q ⟨H0, B, E, q⟩ => ⟨H0, B, E, fun l xs B' H' x n1 n2 h1 h2 => q _ _ B' H' x rfl ⟨l, xs, rfl, E.h0.free n1, n2, h1, h2⟩ fun _ l el => by cases el; exact n1⟩
/-- the dict in the slot i is handed back -/
theorem ss_retM (i : Nat) (hr : po.rd (.dic kvs)) (hd : Γ[i]? = some (.owd kvs) := by rfl) (hN : X.N[i]? = some x := by rfl) (hv : Vis X.env.scope x := by first | exact Or.inl rfl | exact Or.inr (Or.inl rfl) | exact Or.inr (Or.inr rfl)) (h1 : (x == ("__debug__" : Str)) = false := by decide)
    (h2 : (x == ("__classdict__" : Str)) = false := by decide) : PSs X (.Return (some (.Name x p1)) pos :: rest) (tS κ Γ po) :=
  ss_then (C := fun _ => False) (ps_ret (pe_var hN hv h1 h2)) (fun _ z => z.elim) fun D σ H ⟨B0, H0, B, x0, E, q1, q2, q3⟩ => by
    obtain ⟨l, xs, e, a1, a2, a3, a4⟩ := E.owd hd
    exact ⟨_, e, q2 _ _ _ H (x0.show_ a1 a2 a3) hr ⟨l, xs, rfl, upd_same, ent_mono (same_new a2) a4⟩⟩

/-! ### len(m), list(m), sorted(m) -/
def rOfM (κ : Pw) (kvs : List (PyData × PyData)) (S : Dd → Prop) : List V → Hp → VK → Prop := fun vs H Q => ∃ a xs B, vs = [.ref a] ∧ Same B H ∧ H a = some (dicO κ.P κ.w a xs) ∧ Paired (entD κ.K B) xs kvs ∧ ∀ z d B' H', Ext B H B' H' → S d → Rep κ B' z d → Q z H'
def rOfMN (κ : Pw) (kvs : List (PyData × PyData)) (T : List PyData → Prop) : List V → Hp → VK → Prop := fun vs H Q => ∃ a xs B, vs = [.ref a] ∧ Same B H ∧ H a = some (dicO κ.P κ.w a xs) ∧ Paired (entD κ.K B) xs kvs ∧ ∀ l us ds B' H', Ext B H B' H' → T ds → H l = none → B' l = none → H' l = some (.lst us) → DpAll κ.K B' us ds → Q (.ref l) H'
theorem read_M {S : Dd → Prop} : ∀ σ H Q, tD κ Γ S σ H Q → tCB (rOfM κ kvs S) (tCons (tM κ Γ kvs) tNil) σ H Q := fun σ H Q ⟨H0, B, E, q⟩ => ⟨H0, B, E, fun a xs B1 H1 e1 h1 h2 => ⟨a, xs, B1, rfl, e1.s, h1, h2, fun z d B2 H2 e2 s2 r2 => q z d B2 H2 (e1.trans e2) s2 r2⟩⟩
theorem read_MN {T : List PyData → Prop} : ∀ σ H Q, tN κ Γ T σ H Q → tCB (rOfMN κ kvs T) (tCons (tM κ Γ kvs) tNil) σ H Q := fun σ H Q ⟨H0, B, E, q⟩ => ⟨H0, B, E, fun a xs B1 H1 e1 h1 h2 => ⟨a, xs, B1, rfl, e1.s, h1, h2, fun l us ds B2 H2 e2 s2 n1 n2 h3 h4 => q l us ds B2 H2 (e1.trans e2) s2 (e1.h.free n1) n2 h3 h4⟩⟩
theorem cr_lenM : CallR X (.builtin "len") (rOfM (pwOf X) kvs (IsI kvs.length)) := by
  intro pins s σ H vs us Q I rv ⟨a, xs, B, ev, e, ha, hp, q⟩
  subst ev
  rw [Vals.ref1 rv]
  obtain ⟨ys, rel, hm, hsm, hz⟩ := dic_at I ha e hp
  have hlen : (pairsH ys).length = kvs.length := by rw [pairsH_length, ← paired_len rel, paired_len hp]
  have hb : kvs.length ≤ sizeLine := by rw [← paired_len hp]; exact hz
  refine Calls.call_function_entry kind_len plain_len entry_len (args_len1 _) ?_
  unfold Builtin.«len»
  refine wpAny_bind (m := oneArg "len" _) (wpAny_pure ?_)
  refine wpAny_bind (m := callSpecial? (.ref a) (Str.ofString "__len__")) (wpAny_callSpecial?_slot (name := Str.ofString "__len__") hm.typeIs F.slot_dict_len (len_keyed (kvs := pairsH ys) hsm ⟨ys, hm, rfl⟩ ?_))
  rw [hlen]
  show wpAny _ _ _ _ _ { s with toks := s.toks + 1 }
  refine wpAny_bind (wpAny_holding (wpAny_pure ?_))
  refine wpAny_bind (wpAny_letGo ?_)
  show wpAny _ _ (if ((kvs.length : Nat) : Int) < 0 then _ else _) _ _ _
  rw [if_neg (by omega)]
  show wpAny _ _ (if ((kvs.length : Nat) : Int) ≥ 2 ^ 63 then _ else _) _ _ _
  rw [if_neg (by rw [sizeLine_eq] at hb; omega)]
  exact wpAny_bind (wpAny_mkInt (wpAny_pure ⟨_, rfl, .int kvs.length, H, (I.tok (s.toks + 1 + 1)), ⟨_, rfl⟩, q _ _ B H (Ext.refl e) rfl (Dp.int _)⟩))
theorem keys_vals {K : PySem.W.Frag} {B : Hp} : ∀ {xs : List NkT} {kvs : List (PyData × PyData)}, Paired (entD K B) xs kvs → DpAll K B (xs.map fun x => V.ref x.2.1) (kvs.map (·.1))
  | _, _, .nil => .nil
  | _, _, .cons h t => .cons h.2.2.1 (keys_vals t)
theorem rel_refs {R : NkT → NestedKey × Addr × Value → Prop} (hR : ∀ x y, R x y → x.2.1 = y.2.1) : ∀ {xs : List NkT} {ys : List (NestedKey × Addr × Value)}, Paired R xs ys → Vals (xs.map fun x => V.ref x.2.1) (ys.map fun y => Value.ref y.2.1)
  | _, _, .nil => .nil
  | _, _, .cons h t => by
    rw [List.map_cons, List.map_cons, hR _ _ h]
    exact .cons rfl (rel_refs hR t)
theorem items_keys {ys : List (NestedKey × Addr × Value)} {es : Array DictEntry} {acc : Array Value} (hs : es.size = ys.length) (hk : ∀ i (hi : i < es.size), ∃ y, ys[i]? = some y ∧ es[i].key = .ref y.2.1) (hacc : ItemsOf (fun i v => ∃ hi : i < es.size, v = es[i].key) acc es.size) : acc.toList = ys.map fun y => Value.ref y.2.1 := by
  apply List.ext_getElem?
  intro i
  rw [List.getElem?_map, Array.getElem?_toList]
  by_cases hi : i < es.size
  · obtain ⟨y, h1, h2⟩ := hk i hi
    rw [h1]
    have hi2 : i < acc.size := by rw [hacc.1]; exact hi
    obtain ⟨hi3, h3⟩ := hacc.2 i acc[i] (Array.getElem?_eq_getElem hi2)
    rw [Array.getElem?_eq_getElem hi2, h3, h2]
    rfl
  · rw [Array.getElem?_eq_none (by rw [hacc.1]; omega), List.getElem?_eq_none (by omega)]
    rfl
theorem cr_listM (hc : X.calm = true) : CallR X (.type "list") (rOfMN (pwOf X) kvs (Is (kvs.map (·.1)))) := by
  intro pins s σ H vs us Q I rv ⟨a, xs, B, ev, e, ha, hp, q⟩
  subst ev
  rw [Vals.ref1 rv]
  obtain ⟨ys, rel, hm, hsm, hz⟩ := dic_at I ha e hp
  obtain ⟨es, ep, hraw, hes, hk⟩ := hm.raw
  refine PySem.W.kdl_call (KdlSrc.rawDict hsm) (I.ok.hd hc) hraw (by rw [hes, ← paired_len rel]; exact hz) fun h' tk acc c' hkeep hl hacc => ?_
  have hv := items_keys hes (fun i hi => let ⟨y, h1, h2, _⟩ := hk i hi; ⟨y, h1, h2⟩) hacc
  have hn := I.hok.fresh (Nat.le_refl s.heap.objs.size)
  have hvals : Vals (xs.map fun x => V.ref x.2.1) acc.toList := by rw [hv]; exact rel_refs (fun _ _ h => h.2.1) rel
  refine ⟨.ref _, upd H s.heap.objs.size (.lst (xs.map fun x => V.ref x.2.1)), I.laid (t' := tk) hkeep (Nat.le_refl _) ⟨by rw [List.length_map]; exact hz, acc.toList, c', hvals, by rw [Array.toArray_toList]; exact hl⟩, rfl, ?_⟩
  exact q _ _ _ B _ (Ext.hid e hn) rfl hn (e.free hn) upd_same (keys_vals hp)
/-- sorted(m), the keys b of bs -/
theorem cr_sortM {β : Type} {enc : β → PyData} {bs : List β} (hc : X.calm = true) (hr : Room n X.A) (hb : kvs.map (·.1) = bs.map enc) (hal : PySem.W.AllAlike (bs.map enc)) (hk : PySem.W.Sortable (bs.map enc)) (hnk : ∀ b, isNk (enc b) = true) (hdep : ∀ b ∈ bs, (enc b).depth ≤ 20) (hz : bs.length ≤ 1000000) :
    CallR X (.builtin "sorted") (rOfMN (pwOf X) kvs (Is ((bs.mergeSort (PySem.W.dataLe false enc)).map enc))) := by
  intro pins s σ H vs us Q I rv ⟨a, xs, B, ev, e, ha, hp, q⟩
  subst ev
  rw [Vals.ref1 rv]
  obtain ⟨ys, rel, hm, hsm, hzz⟩ := dic_at I ha e hp
  obtain ⟨es, ep, hraw, hes, hkk⟩ := hm.raw
  refine sorted_from (R := EachV X.K B enc) (enc := enc) (PySem.W.kdu_collect (A := X.A.in1) (KdlSrc.rawDict hsm) (I.ok.hd hc) hraw (by rw [hes, ← paired_len rel]; exact hzz) fun h' tk acc hkeep hacc => ?_) (by have := hr.un; omega)
  have hv := items_keys hes (fun i hi => let ⟨y, h1, h2, _⟩ := hkk i hi; ⟨y, h1, h2⟩) hacc
  have hvals : Vals (xs.map fun x => V.ref x.2.1) acc.toList := by rw [hv]; exact rel_refs (fun _ _ h => h.2.1) rel
  have hdp := keys_vals hp
  rw [hb] at hdp
  have hE := each_of hvals hdp
  have I1 : Inv X pins σ H { s with heap := h', toks := tk } := I.kept hkeep
  refine ⟨bs, hE.mono fun u b ⟨z, h1, h2⟩ => ⟨⟨z, h1, h2⟩, hnk b, Dp.reads I1 _ _ _ (dp_mono e _ _ h2) h1⟩, hal, hk, hz, hdep, fun out h2 c k2 hg ho hO => ?_⟩
  obtain ⟨zs, z1, z2⟩ := of_each hO
  have hn : H h'.objs.size = none := I1.hok.fresh (Nat.le_refl _)
  refine ⟨.ref _, upd H h'.objs.size (.lst zs), I1.laid (t' := tk) k2 (Nat.le_refl _) ⟨by rw [z1.length, ho, sizeLine_eq]; omega, out, c, z1, hg⟩, rfl, ?_⟩
  exact q _ zs _ B _ (Ext.hid e hn) rfl hn (e.free hn) upd_same z2
theorem pd_lenM (hg : Gl X "len") (hm : X.mg "len" = none) (ha : PE X e (tM (pwOf X) Γ kvs)) (hs : starEach [e] X.env = (false, eval e X.env) :: starEach [] X.env := by rfl) : PE X (.Call (.Name "len" p) [e] [] pos) (tD (pwOf X) Γ (IsI kvs.length)) :=
  pe_mono (pe_callB cr_lenM hg hm PySem.boot_len (pa_cons ha pa_nil hs) (by decide) (by decide) hs rfl) read_M
theorem pn_listM (hc : X.calm = true) (hg : Gl X "list") (hm : X.mg "list" = none) (ha : PE X e (tM (pwOf X) Γ kvs)) (hs : starEach [e] X.env = (false, eval e X.env) :: starEach [] X.env := by rfl) : PE X (.Call (.Name "list" p) [e] [] pos) (tN (pwOf X) Γ (Is (kvs.map (·.1)))) :=
  pe_mono (pe_callTy (cr_listM hc) hg hm boot_list (pa_cons ha pa_nil hs) (by decide) (by decide) hs rfl) read_MN
theorem pn_sortM {β : Type} {enc : β → PyData} {bs : List β} (hc : X.calm = true) (hr : Room n X.A) (hb : kvs.map (·.1) = bs.map enc) (hal : PySem.W.AllAlike (bs.map enc)) (hk : PySem.W.Sortable (bs.map enc)) (hnk : ∀ b, isNk (enc b) = true) (hdep : ∀ b ∈ bs, (enc b).depth ≤ 20) (hz : bs.length ≤ 1000000) (hg : Gl X "sorted") (hm : X.mg "sorted" = none) (ha : PE X e (tM (pwOf X) Γ kvs)) (hs : starEach [e] X.env = (false, eval e X.env) :: starEach [] X.env := by rfl) : PE X (.Call (.Name "sorted" p) [e] [] pos) (tN (pwOf X) Γ (Is ((bs.mergeSort (PySem.W.dataLe false enc)).map enc))) :=
  pe_mono (pe_callB (cr_sortM hc hr hb hal hk hnk hdep hz) hg hm boot_sorted (pa_cons ha pa_nil hs) (by decide) (by decide) hs rfl) read_MN
end
end K62
/-! sets of nested tuples of ints -/
namespace K62
open PySem PySem.Spec PyProof.Rows L2

mutual
def numK : NestedKey → Bool
  | .none => false
  | .num _ => true
  | .text _ => false
  | .tup ks => numKs ks
def numKs : List NestedKey → Bool
  | [] => true
  | k :: ks => numK k && numKs ks
end
section
variable {P : Program} {w : World}
mutual
/-- of no class statement, to the depth n -/
theorem cls_key : ∀ (k : NestedKey) (v : Value) (n : Nat) (s : Shared), NestedIs s.heap k v → k.depth ≤ n → ∀ (A : Around) (E : Value → Shared → Prop) (Q : Bool → Shared → Prop), Q false s → wpAny (model P w) A (ofAClassStatement n v) Q E s
  | .none, _, n, s, x, _ => fun A E Q q => by cases x; cases n <;> exact wpAny_pure q
  | .num i, _, n, s, x, _ => fun A E Q q => by cases x <;> cases n <;> exact wpAny_pure q
  | .text y, _, n, s, x, _ => fun A E Q q => by cases x; cases n <;> exact wpAny_pure q
  | .tup ks, _, n, s, x, hn => fun A E Q q => by
    cases x with
    | @tup a o vs m _ ho hc hd hk =>
      rw [NestedKey.depth] at hn
      obtain ⟨j, rfl⟩ : ∃ j, n = j + 1 := ⟨n - 1, by omega⟩
      have each := cls_keys ks _ j s hk (by omega)
      have hT : s.TypeIs (.ref a) "tuple" := ⟨o, ho, hc⟩
      have et : (("tuple" : String) == "tuple") = true := by decide
      unfold ofAClassStatement
      refine wpAny_bind (wpAny_typeOf hT ?_)
      dsimp only
      simp only [et, if_true, Bool.not_true, Bool.false_eq_true, if_false]
      try refine wpAny_bind (wpAny_pure ?_)
      try simp only [Bool.not_true, Bool.false_eq_true, if_false]
      show wpAny _ _ (seqItems? (.ref a) >>= _) _ _ s
      refine wpAny_bind (wpAny_seqItems ho hd ?_)
      dsimp only
      refine wpAny_bind ?_
      show wpAny _ _ (forIn vs _ _) _ _ s
      rw [← Array.forIn_toList]
      refine wpAny_forIn_list _ (fun left st s2 => st.1 = none ∧ s2 = s ∧ ∀ y ∈ left, y ∈ vs.toList) _ (fun y left st s2 ⟨e1, e2, sub⟩ => ?_) (fun st s2 ⟨e1, e2, _⟩ => ?_) _ _ ⟨rfl, rfl, fun y hy => hy⟩
      · subst e2
        refine wpAny_bind (each y (sub y List.mem_cons_self) _ _ _ ?_)
        simp only [Bool.false_eq_true, if_false]
        exact wpAny_pure ⟨rfl, rfl, fun z hz => sub z (List.mem_cons_of_mem _ hz)⟩
      · obtain ⟨st1, st2⟩ := st
        simp only at e1
        subst e1 e2
        exact wpAny_pure q
theorem cls_keys : ∀ (ks : List NestedKey) (vs : List Value) (n : Nat) (s : Shared), NestedAll s.heap ks vs → NestedKey.depthAll ks ≤ n → ∀ v ∈ vs, ∀ (A : Around) (E : Value → Shared → Prop) (Q : Bool → Shared → Prop), Q false s → wpAny (model P w) A (ofAClassStatement n v) Q E s
  | [], _, n, s, x, _ => fun v hv => by cases x; cases hv
  | k :: ks, _, n, s, x, hn => fun v hv => by
    rw [NestedKey.depthAll] at hn
    cases x with
    | cons x1 x2 =>
      rcases List.mem_cons.mp hv with e | hv
      · subst e; exact cls_key k _ n s x1 (by omega)
      · exact cls_keys ks _ n s x2 (by omega) v hv
end
mutual
/-- hashed by value alone -/
theorem val_key : ∀ (k : NestedKey) (v : Value) (n : Nat) (s : Shared), NestedIs s.heap k v → k.depth ≤ n → numK k = true → ∀ (A : Around) (E : Value → Shared → Prop) (Q : Bool → Shared → Prop), Q true s → wpAny (model P w) A (hashByValue n v) Q E s
  | .none, _, n, s, x, _, g => fun A E Q q => by simp [numK] at g
  | .num i, _, n, s, x, _, _ => fun A E Q q => by cases x <;> cases n <;> exact wpAny_pure q
  | .text y, _, n, s, x, _, g => fun A E Q q => by simp [numK] at g
  | .tup ks, _, n, s, x, hn, g => fun A E Q q => by
    cases x with
    | @tup a o vs m _ ho hc hd hk =>
      rw [NestedKey.depth] at hn
      rw [numK] at g
      obtain ⟨j, rfl⟩ : ∃ j, n = j + 1 := ⟨n - 1, by omega⟩
      have each := val_keys ks _ j s hk (by omega) g
      have hT : s.TypeIs (.ref a) "tuple" := ⟨o, ho, hc⟩
      unfold hashByValue
      refine wpAny_bind (wpAny_specialOf hT F.slot_tuple_hash.lookup ?_)
      show wpAny _ _ (seqItems? (.ref a) >>= _) _ _ s
      refine wpAny_bind (wpAny_seqItems ho hd ?_)
      refine wpAny_bind ?_
      show wpAny _ _ (forIn vs _ _) _ _ s
      rw [← Array.forIn_toList]
      refine wpAny_forIn_list _ (fun left st s2 => st.1 = none ∧ s2 = s ∧ ∀ y ∈ left, y ∈ vs.toList) _ (fun y left st s2 ⟨e1, e2, sub⟩ => ?_) (fun st s2 ⟨e1, e2, _⟩ => ?_) _ _ ⟨rfl, rfl, fun y hy => hy⟩
      · subst e2
        refine wpAny_bind (each y (sub y List.mem_cons_self) _ _ _ ?_)
        simp only [Bool.not_true, Bool.false_eq_true, if_false]
        exact wpAny_pure ⟨rfl, rfl, fun z hz => sub z (List.mem_cons_of_mem _ hz)⟩
      · obtain ⟨st1, st2⟩ := st
        simp only at e1
        subst e1 e2
        exact wpAny_pure q
theorem val_keys : ∀ (ks : List NestedKey) (vs : List Value) (n : Nat) (s : Shared), NestedAll s.heap ks vs → NestedKey.depthAll ks ≤ n → numKs ks = true → ∀ v ∈ vs, ∀ (A : Around) (E : Value → Shared → Prop) (Q : Bool → Shared → Prop), Q true s → wpAny (model P w) A (hashByValue n v) Q E s
  | [], _, n, s, x, _, _ => fun v hv => by cases x; cases hv
  | k :: ks, _, n, s, x, hn, g => fun v hv => by
    rw [NestedKey.depthAll] at hn
    rw [numKs, Bool.and_eq_true] at g
    cases x with
    | cons x1 x2 =>
      rcases List.mem_cons.mp hv with e | hv
      · subst e; exact val_key k _ n s x1 (by omega) g.1
      · exact val_keys ks _ n s x2 (by omega) g.2 v hv
end
end

/-- at a stands the key k -/
structure IsN (h : Heap) (k : NestedKey) (a : Addr) : Prop where
  is : NestedIs h k (.ref a)
  dp : k.depth ≤ 8
  nm : numK k = true
abbrev NRow := Addr × NestedKey
theorem IsN.keep {h h' : Heap} {k : NestedKey} {a : Addr} (x : IsN h k a) (e : ∀ c o, h.get? c = some o → h'.get? c = some o) : IsN h' k a := ⟨NestedIs.at (fun c o _ _ q _ => e c o q) _ _ x.is, x.dp, x.nm⟩
theorem IsN.same {h h' : Heap} {k : NestedKey} {a b : Addr} {o : Obj} {es : Array (Int × Value)} {ep : Nat} {t : SetTable} (x : IsN h k b) (ho : h.get? a = some o) (hd : o.data = .set es ep t) (e : Heap.SameBut a h h') : IsN h' k b :=
  ⟨NestedIs.at (fun c u vs n q d => (e.2 c fun z => by
    subst z
    rw [ho] at q
    cases q
    rw [hd] at d
    cases d).trans q) _ _ x.is, x.dp, x.nm⟩
abbrev rowsN (w : World) (L : List NRow) : List (Int × Value) := L.map fun p => (p.2.hash w, Value.ref p.1)
abbrev hashN (w : World) (L : List NRow) : List Int := L.map fun p => p.2.hash w
structure NSet (w : World) (h : Heap) (a : Addr) (L : List NRow) (es : Array (Int × Value)) (ep : Nat) (t : SetTable) : Prop where
  obj : ∃ o, h.get? a = some o ∧ o.ExactSet ∧ o.data = .set es ep t
  row : es.toList = rowsN w L
  tab : TabOk t (hashN w L)
  dis : (L.map (·.2)).Nodup
  key : ∀ p ∈ L, IsN h p.2 p.1
  pln : t.plain = true
  led : w.params.followText "set-order" = true ∨ t.led = true
  rm : L.length * 5 < t.mask * 3
  few : L.length < 64
theorem rows_size {w : World} {L : List NRow} {es : Array (Int × Value)} (h : es.toList = rowsN w L) : es.size = L.length := by
  rw [← Array.length_toList, h, List.length_map]
theorem rows_get {w : World} {L : List NRow} {es : Array (Int × Value)} (h : es.toList = rowsN w L) {i : Nat} {p : NRow} (e : L[i]? = some p) : es[i]? = some (p.2.hash w, Value.ref p.1) := by
  rw [← Array.getElem?_toList, h, List.getElem?_map, e]
  rfl
theorem fits_of {t : SetTable} {n : Nat} (hd : t.dummies = #[]) (h1 : t.place.size = n) (h2 : n ≤ t.mask) : t.fits n = true := by
  unfold SetTable.fits SetTable.fill
  rw [hd, Bool.and_eq_true, beq_iff_eq, decide_eq_true_eq]
  show t.place.size = n ∧ t.place.size + 0 ≤ t.mask
  omega
section
variable {P : Program} {w : World} {A : Around} {E : Value → Shared → Prop} {s : Shared} {a : Addr} {L : List NRow} {es : Array (Int × Value)} {ep : Nat} {t : SetTable}
theorem NSet.fit (R : NSet w s.heap a L es ep t) : t.fits es.size = true := by
  have h1 := R.tab.sz
  rw [List.length_map] at h1
  have h2 := rows_size R.row
  have h3 := R.rm
  exact fits_of R.tab.dm (by omega) (by omega)
/-- the search shows nothing -/
theorem seen_no {k : NestedKey} {b : Addr} {Q : Bool → Shared → Prop} (hk : IsN s.heap k b) {ys : List Value} (hy : ∀ y ∈ ys, ∃ k' c, y = Value.ref c ∧ IsN s.heap k' c) (q : Q false s) : wpAny (model P w) A (searchCouldBeSeen (.ref b) ys) Q E s := by
  unfold searchCouldBeSeen
  refine wpAny_bind ?_
  refine wpAny_forIn_list _ (fun left st s2 => st.1 = none ∧ s2 = s ∧ ∀ y ∈ left, y ∈ ys) _ (fun y left st s2 ⟨e1, e2, sub⟩ => ?_) (fun st s2 ⟨e1, e2, _⟩ => ?_) _ _ ⟨rfl, rfl, fun y hm => hm⟩
  · subst e2
    obtain ⟨k', c, rfl, hc⟩ := hy y (sub y List.mem_cons_self)
    have sub' : ∀ z ∈ left, z ∈ ys := fun z hz => sub z (List.mem_cons_of_mem _ hz)
    dsimp only
    by_cases hv : (b == c || (carriedByValue (.ref b) && carriedByValue (.ref c))) = true
    · exact wp_if_pos hv (wpAny_pure ⟨rfl, rfl, sub'⟩)
    · refine wp_if_neg hv ?_
      refine wpAny_bind (quiet_key _ _ _ _ hk.is hk.dp _ _ _ ?_)
      simp only [Bool.not_true, Bool.false_eq_true, if_false]
      refine wpAny_bind (quiet_key _ _ _ _ hc.is hc.dp _ _ _ ?_)
      simp only [Bool.not_true, Bool.false_eq_true, if_false]
      refine wpAny_bind (cls_key _ _ _ _ hk.is hk.dp _ _ _ ?_)
      simp only [Bool.false_eq_true, if_false]
      refine wpAny_bind (cls_key _ _ _ _ hc.is hc.dp _ _ _ ?_)
      simp only [Bool.false_eq_true, if_false]
      exact wpAny_pure ⟨rfl, rfl, sub'⟩
  · obtain ⟨st1, st2⟩ := st
    simp only at e1
    subst e1 e2
    exact wpAny_pure q
/-- the state at the c-th step of the way -/
abbrev stepN (m : Nat) (h : Int) (c : Nat) : SetTable.Probe := nth m (runAt m (SetTable.bits h % (m + 1)) (SetTable.bits h)) c
theorem step_add (m : Nat) (h : Int) (c q : Nat) : nth m (stepN m h c) q = stepN m h (c + q) := (nth_add m c _ q).symm
theorem step_plain (m : Nat) (h : Int) : ∀ c, (stepN m h c).dummy = none
  | 0 => rfl
  | c + 1 => by
    show (nth m _ (c + 1)).dummy = none
    rw [nth_succ]
    have ih := step_plain m h c
    unfold adv
    split <;> exact ih
/-- THE SEARCH, from the c-th step on; K is the first free place of the way -/
theorem find_from (R : NSet w s.heap a L es ep t) {x : Addr} {k : NestedKey} (hx : IsN s.heap k x) (hu : A.units + 8 < cLine) {K : Nat} (hKf : K < 10 * SetTable.turns t.mask) (hK : way t.mask (k.hash w) K ∉ t.place.toList)
    (hKb : ∀ c, c < K → way t.mask (k.hash w) c ∈ t.place.toList) {Q : SetFound → Shared → Prop} (hin : k ∈ L.map (·.2) → Q (.there none) s) (hout : k ∉ L.map (·.2) → Q (.free (way t.mask (k.hash w) K) false) s) :
    ∀ (f c : Nat) (stand : Option SetTable.Probe), stand.getD (t.probeStart (k.hash w)) = stepN t.mask (k.hash w) c → c ≤ K → K - c < f →
      (∀ (i : Nat) p, L[i]? = some p → p.2 = k → ∃ c', c ≤ c' ∧ c' < K ∧ t.place.toList[i]? = some (way t.mask (k.hash w) c')) → wpAny (model P w) A (setSearchFrom a (.ref x) (k.hash w) true f stand) Q E s := by
  obtain ⟨o, ho, hex, hd⟩ := R.obj
  have gw : ¬ t.gaveWay = true := by
    unfold SetTable.gaveWay
    rw [mask_odd R.tab.mok]
    decide
  have hashAt : ∀ (i : Nat) p, L[i]? = some p → (fun i => (es[i]?.map (·.1)).getD 0) i = p.2.hash w := fun i p hp => by
    show (es[i]?.map (·.1)).getD 0 = _
    rw [rows_get R.row hp]
    rfl
  intro f
  induction f with
  | zero => intro c stand _ _ z; exact absurd z (Nat.not_lt_zero _)
  | succ f ih =>
    intro c stand hst hc hf hre
    have at_ : ∀ q, (nth t.mask (stepN t.mask (k.hash w) c) q).j = way t.mask (k.hash w) (c + q) := fun q => congrArg SetTable.Probe.j (step_add _ _ c q)
    have eK : c + (K - c) = K := by omega
    have spec := go_spec t R.tab.ris R.tab.dm (fun i => (es[i]?.map (·.1)).getD 0) (k.hash w) (10 * SetTable.turns t.mask) (K - c) _ (step_plain t.mask (k.hash w) c) (by omega)
      (fun q hq => by rw [at_]; exact hKb (c + q) (by omega)) (by rw [at_, eK]; exact hK)
    rw [setSearchFrom_succ]
    refine wpAny_bind (wpAny_setState_of ho hd R.fit ?_)
    dsimp only
    refine wp_if_neg gw ?_
    try refine wpAny_bind (wpAny_pure ?_)
    rcases spec with ⟨q, i, hq, hi, hh, hno, hpr⟩ | ⟨hno, hpr⟩
    · rw [at_] at hi
      have hpr' : t.probe (fun i => (es[i]?.map (·.1)).getD 0) (k.hash w) (stand.getD (t.probeStart (k.hash w))) = some (.candidate (way t.mask (k.hash w) (c + q)) i (stepN t.mask (k.hash w) (c + (q + 1)))) := by
        rw [hst, ← at_, ← step_add]
        exact hpr
      rw [hpr']
      dsimp only
      have hil : i < L.length := by
        have h1 : i < t.place.toList.length := (List.getElem?_eq_some_iff.mp hi).1
        have h2 := R.tab.sz
        rw [List.length_map] at h2
        rw [Array.length_toList] at h1
        omega
      obtain ⟨p, hp⟩ : ∃ p, L[i]? = some p := ⟨_, List.getElem?_eq_getElem hil⟩
      have hpm : p ∈ L := List.mem_of_getElem? hp
      have hsl : t.slot (way t.mask (k.hash w) (c + q)) = .live i := slot_live R.tab.ris hi
      have rest : wpAny (model P w) A (searchRest a (.ref x) (k.hash w) true f es t (way t.mask (k.hash w) (c + q)) i (stepN t.mask (k.hash w) (c + (q + 1)))) Q E s := by
        unfold searchRest
        rw [rows_get R.row hp]
        dsimp only
        refine wpAny_bind (wpAny_holding ((nestedKind P w).eqBool (x := p.2) (y := k) hu ⟨(R.key p hpm).is, (R.key p hpm).dp⟩ ⟨hx.is, hx.dp⟩ ?_))
        refine wpAny_bind (wpAny_setState_of ho hd R.fit ?_)
        dsimp only
        by_cases hkk : p.2 = k
        · exact wp_if_pos (by simp [hkk]) (wpAny_pure (hin (List.mem_map.mpr ⟨p, hpm, hkk⟩)))
        · refine wp_if_neg (by simp [hkk]) ?_
          try refine wpAny_bind (wpAny_pure ?_)
          rw [sameMem]
          dsimp only
          simp only [if_true, hsl, rows_get R.row hp]
          refine wpAny_bind (wpAny_isSame_ref_self (wpAny_bind (wpAny_pure ?_)))
          simp only [if_true]
          refine wp_if_neg (by simp [hkk]) ?_
          refine ih (c + (q + 1)) _ rfl (by omega) (by omega) fun i0 p0 h0 hk0 => ?_
          obtain ⟨c', a1, a2, a3⟩ := hre i0 p0 h0 hk0
          refine ⟨c', ?_, a2, a3⟩
          have same := (hashAt i0 p0 h0).trans (congrArg (NestedKey.hash w) hk0)
          rcases Nat.lt_trichotomy c' (c + q) with z | z | z
          · exact absurd same (hno (c' - c) i0 (by omega) (by rw [at_, show c + (c' - c) = c' by omega]; exact a3))
          · exfalso
            rw [z] at a3
            have s0 := slot_live R.tab.ris a3
            rw [hsl] at s0
            injection s0 with s0
            rw [← s0, hp] at h0
            exact hkk ((congrArg Prod.snd (Option.some.inj h0)).trans hk0)
          · omega
      by_cases hl : t.led = true
      · refine wp_if_neg (by simp [hl]) ?_
        try refine wpAny_bind (wpAny_pure ?_)
        exact rest
      · refine wp_if_pos (by simp [hl]) ?_
        refine wpAny_bind (seen_no hx (fun y hy => ?_) ?_)
        · obtain ⟨r, hr, er⟩ := List.mem_map.mp hy
          have hr2 : r ∈ es ∧ r.1 = k.hash w := by simpa using hr
          have hr3 : r ∈ es.toList := by simpa using hr2.1
          rw [R.row] at hr3
          obtain ⟨p2, hp2, e2⟩ := List.mem_map.mp hr3
          exact ⟨p2.2, p2.1, by rw [← er, ← e2], R.key p2 hp2⟩
        · refine wp_if_neg (by decide) ?_
          try refine wpAny_bind (wpAny_pure ?_)
          exact rest
    · have hpr' : t.probe (fun i => (es[i]?.map (·.1)).getD 0) (k.hash w) (stand.getD (t.probeStart (k.hash w))) = some (.empty (way t.mask (k.hash w) K) none) := by
        have e2 : way t.mask (k.hash w) K = (nth t.mask (stepN t.mask (k.hash w) c) (K - c)).j := by rw [at_, eK]
        rw [hst, e2]
        exact hpr
      rw [hpr']
      dsimp only
      refine wpAny_pure (hout fun hm => ?_)
      obtain ⟨p0, h0, hk0⟩ := List.mem_map.mp hm
      obtain ⟨i0, h1⟩ := List.mem_iff_getElem?.mp h0
      obtain ⟨c', a1, a2, a3⟩ := hre i0 p0 h1 hk0
      exact hno (c' - c) i0 (by omega) (by rw [at_, show c + (c' - c) = c' by omega]; exact a3) ((hashAt i0 p0 h1).trans (congrArg (NestedKey.hash w) hk0))
/-- as adding asks -/
theorem find_at (R : NSet w s.heap a L es ep t) {x : Addr} {k : NestedKey} (hx : IsN s.heap k x) (hu : A.units + 8 < cLine) {Q : SetFound → Shared → Prop} (hin : k ∈ L.map (·.2) → Q (.there none) s)
    (hout : ∀ K, k ∉ L.map (·.2) → way t.mask (k.hash w) K ∉ t.place.toList → (∀ c, c < K → way t.mask (k.hash w) c ∈ t.place.toList) → Q (.free (way t.mask (k.hash w) K) false) s) : wpAny (model P w) A (setSearch a (.ref x) (k.hash w) true) Q E s := by
  have hrm := R.rm
  obtain ⟨K, hKf, hK, hKb⟩ := R.tab.first (by rw [List.length_map]; omega) (k.hash w)
  have hbig : K < 100000 := by
    have : 10 * SetTable.turns t.mask ≤ 1420 := by
      unfold SetTable.turns
      rcases R.tab.mok with e | e | e <;> omega
    omega
  unfold setSearch
  refine find_from R hx hu hKf hK hKb hin (fun hn => hout K hn hK hKb) 100000 0 none rfl (Nat.zero_le _) (by omega) fun i p hp hk => ?_
  have hi : (hashN w L)[i]? = some (k.hash w) := by rw [List.getElem?_map, hp, ← hk]; rfl
  have hil : i < t.place.toList.length := by
    have h1 : i < L.length := (List.getElem?_eq_some_iff.mp hp).1
    have h2 := R.tab.sz
    rw [List.length_map] at h2
    rw [Array.length_toList]
    omega
  obtain ⟨c, hc, e⟩ := R.tab.before hK hi (List.getElem?_eq_getElem hil)
  exact ⟨c, Nat.zero_le _, hc, by rw [List.getElem?_eq_getElem hil, e]⟩
end
end K62
/-! adding to such sets -/
namespace K62
open PySem PySem.Spec PyProof.Rows L2

theorem filterMap_all {α β : Type} {f : α → Option β} {g : α → β} : ∀ {l : List α}, (∀ x ∈ l, f x = some (g x)) → l.filterMap f = l.map g
  | [], _ => rfl
  | x :: l, h => by rw [List.filterMap_cons_some (h x List.mem_cons_self), filterMap_all fun y hy => h y (List.mem_cons_of_mem _ hy), List.map_cons]
theorem range_get {α : Type} (L : List α) : (List.range L.length).filterMap (fun i => L[i]?) = L := by
  have h := PySem.W.krv_all L.toArray
  simpa using h
theorem map_ins {α β : Type} (f : α → β) (L : List α) (p : Nat) (x : α) : (L.take p ++ x :: L.drop p).map f = (L.map f).take p ++ f x :: (L.map f).drop p := by
  rw [List.map_append, List.map_cons, List.map_take, List.map_drop]
/-- the rows in another order -/
theorem rows_order {w : World} {L : List NRow} {es : Array (Int × Value)} {order : Array Nat} (hr : es.toList = rowsN w L) (hp : order.toList.Perm (List.range L.length)) :
    ∃ L2, (order.filterMap (es[·]?)).toList = rowsN w L2 ∧ L2.Perm L ∧ hashN w L2 = order.toList.map fun i => (es.map (·.1)).getD i 0 := by
  have get : ∀ i : Nat, es[i]? = (L[i]?).map fun p => (p.2.hash w, Value.ref p.1) := fun i => by
    rw [← Array.getElem?_toList, hr, List.getElem?_map]
  refine ⟨order.toList.filterMap fun i => L[i]?, ?_, ?_, ?_⟩
  · rw [Array.toList_filterMap]
    show _ = List.map (fun p : NRow => (p.2.hash w, Value.ref p.1)) _
    rw [List.map_filterMap]
    congr 1
    funext i
    exact get i
  · have h := hp.filterMap fun i => L[i]?
    rw [range_get] at h
    exact h
  · show List.map (fun p : NRow => p.2.hash w) _ = _
    rw [List.map_filterMap]
    refine filterMap_all fun i hi => ?_
    have hlt := List.mem_range.mp (hp.mem_iff.mp hi)
    have e2 := get i
    rw [List.getElem?_eq_getElem hlt] at e2 ⊢
    simp [Array.getD_eq_getD_getElem?, e2]
section
variable {P : Program} {w : World} {A : Around} {E : Value → Shared → Prop} {s : Shared} {a : Addr} {L : List NRow} {es : Array (Int × Value)} {ep : Nat} {t : SetTable}
/-- a larger table -/
theorem relay_N {o : Obj} (ho : s.heap.get? a = some o) (hex : o.ExactSet) (hd : o.data = .set es ep t) (row : es.toList = rowsN w L) (hsz : t.place.size = L.length) (hdm : t.dummies = #[]) (hfl : L.length ≤ t.mask) (dis : (L.map (·.2)).Nodup) (key : ∀ p ∈ L, IsN s.heap p.2 p.1)
    (pln : t.plain = true) (led : w.params.followText "set-order" = true ∨ t.led = true) (few : L.length < 64) {wanted M : Nat} (hw : SetTable.sizeAbove wanted - 1 = M) (hM : MaskOk M) (hw2 : SetTable.sizeAbove wanted ≤ 128) (hn : L.length * 5 < M * 3) {Q : Unit → Shared → Prop}
    (hQ : ∀ h' L' es' ep' t', Heap.SameBut a s.heap h' → NSet w h' a L' es' ep' t' → L'.Perm L → Q () { s with heap := h' }) : wpAny (model P w) A (setRelay a wanted) Q E s := by
  have hsl := rows_size row
  obtain ⟨t', order, e, hp, T, em, el, epl, ed⟩ := relaid_ok t (hs := es.map (·.1)) (wanted := wanted) hw hM (by rw [Array.size_map, hsl]; omega)
  rw [Array.size_map, hsl] at hp
  obtain ⟨L2, r1, r2, r3⟩ := rows_order row hp
  rw [← r3] at T
  have hs2 : (order.filterMap (es[·]?)).size = es.size := by rw [rows_size r1, r2.length_eq, hsl]
  rw [setRelay_eq]
  refine wpAny_bind (wpAny_setState_of ho hd (by rw [hsl]; exact fits_of hdm hsz hfl) ?_)
  dsimp only
  refine wp_if_neg (by rw [sizeLine_eq]; omega) ?_
  try refine wpAny_bind (wpAny_pure ?_)
  rw [e]
  dsimp only
  refine wpAny_bind ?_
  refine wp_if_neg (by rw [hs2]; simp) ?_
  try refine wpAny_bind (wpAny_pure ?_)
  refine wpAny_pure ?_
  dsimp only
  refine wpAny_storeSet_of ho hd ?_ (by rw [hs2, hsl, sizeLine_eq]; omega)
  have sb : Heap.SameBut a s.heap (s.heap.update a (Obj.putSet (order.filterMap (es[·]?)) t')) := Heap.SameBut.update ..
  exact hQ _ L2 (order.filterMap (es[·]?)) (ep + 1) t' sb
    { obj := ⟨_, store_at ho hd, ⟨hex.1, hex.2.1, hex.2.2⟩, rfl⟩, row := r1, tab := T, dis := (r2.map (·.2)).nodup_iff.mpr dis, key := fun p hpm => (key p (r2.mem_iff.mp hpm)).same ho hd sb, pln := by rw [epl]; exact pln, led := by rw [el]; exact led, rm := by rw [r2.length_eq, em]; exact hn, few := by rw [r2.length_eq]; exact few } r2
/-- one more -/
theorem add_N (R : NSet w s.heap a L es ep t) {x : Addr} {k : NestedKey} (hx : IsN s.heap k x) (hu : A.units + 8 < cLine) (hfew : L.length + 1 < 64) {Q : Bool → Shared → Prop}
    (hQ : ∀ b h' L' es' ep' t', Heap.SameBut a s.heap h' → NSet w h' a L' es' ep' t' → (k ∈ L.map (·.2) → L' = L) → (k ∉ L.map (·.2) → L'.Perm ((x, k) :: L)) → Q b { s with heap := h' }) : wpAny (model P w) A (setAddHashed a (.ref x) (k.hash w)) Q E s := by
  obtain ⟨o, ho, hex, hd⟩ := R.obj
  have hsl := rows_size R.row
  have hrm := R.rm
  unfold setAddHashed
  refine wpAny_holding ?_
  rw [show (100000 : Nat) = 99999 + 1 from rfl, setAddHashedIn_succ]
  refine wpAny_bind (wpAny_setState_of ho hd R.fit ?_)
  dsimp only
  refine wp_if_neg (by simp [byScan, Value.scannable]) ?_
  try refine wpAny_bind (wpAny_pure ?_)
  refine wpAny_bind (find_at R hx hu (fun hm => wpAny_pure (hQ false s.heap L es ep t (Heap.SameBut.refl a s.heap) R (fun _ => rfl) fun z => absurd hm z)) fun K hm hK hb => ?_)
  dsimp only
  refine wpAny_bind (wpAny_setState_of ho hd R.fit ?_)
  dsimp only
  obtain ⟨q1, q2, q3, q4, q5, q6, q7, q8, q9⟩ := R.tab.put hK hb
  have hp1 : (t.put (way t.mask (k.hash w) K)).1.plain = true := by rw [q6]; exact R.pln
  have hin : (SetTable.insertAt es (SetTable.below t.place (way t.mask (k.hash w) K)) (k.hash w, Value.ref x)).toList = rowsN w (L.take (SetTable.below t.place (way t.mask (k.hash w) K)) ++ (x, k) :: L.drop (SetTable.below t.place (way t.mask (k.hash w) K))) := by
    rw [SetTable.toList_insertAt, R.row]
    exact (map_ins (fun p : NRow => (p.2.hash w, Value.ref p.1)) L _ (x, k)).symm
  generalize hpt : t.put (way t.mask (k.hash w) K) = pt at q1 q3 q4 q5 q6 q7 q8 q9 hp1 ⊢
  obtain ⟨t1, p⟩ := pt
  dsimp only at q1 q3 q4 q5 q6 q7 q8 q9 hp1 ⊢
  subst q1
  generalize SetTable.below t.place (way t.mask (k.hash w) K) = p at q2 q3 hin ⊢
  first
    | (refine wpAny_bind ?_; refine wp_if_pos hp1 ?_; refine val_key _ _ 8 _ hx.is hx.dp hx.nm _ _ _ ?_)
    | refine wp_if_pos hp1 (wpAny_bind (val_key _ _ 8 _ hx.is hx.dp hx.nm _ _ _ ?_))
  simp only [if_true]
  have pm : (L.take p ++ (x, k) :: L.drop p).Perm ((x, k) :: L) := put_perm L p (x, k)
  have hhs : hashN w (L.take p ++ (x, k) :: L.drop p) = (hashN w L).take p ++ k.hash w :: (hashN w L).drop p := map_ins (fun p : NRow => p.2.hash w) L p (x, k)
  rw [← hhs] at q3
  generalize SetTable.insertAt es p (k.hash w, Value.ref x) = es1 at hin ⊢
  generalize L.take p ++ (x, k) :: L.drop p = L1 at pm q3 hin
  have hlen : L1.length = L.length + 1 := pm.length_eq
  have dis1 : (L1.map (·.2)).Nodup := (pm.map (·.2)).nodup_iff.mpr (List.nodup_cons.mpr ⟨hm, R.dis⟩)
  have hes := rows_size hin
  refine wpAny_bind (wpAny_storeSet_of ho hd ?_ (by rw [hes, hlen, sizeLine_eq]; omega))
  have sb : Heap.SameBut a s.heap (s.heap.update a (Obj.putSet es1 t1)) := Heap.SameBut.update ..
  have ho1 := store_at (es' := es1) (t' := t1) ho hd
  generalize s.heap.update a (Obj.putSet es1 t1) = h1 at sb ho1 ⊢
  have key1 : ∀ p ∈ L1, IsN h1 p.2 p.1 := fun p hp => by
    rcases List.mem_cons.mp (pm.mem_iff.mp hp) with e | hp
    · rw [e]; exact hx.same ho hd sb
    · exact (R.key p hp).same ho hd sb
  have led1 : w.params.followText "set-order" = true ∨ t1.led = true := by rw [q5]; exact R.led
  have sz1 : t1.place.size = L1.length := by
    have h := q3.sz
    rw [List.length_map] at h
    exact h
  by_cases hf : t1.tooFull = true
  · first
      | (refine wpAny_bind ?_; refine wp_if_pos (by simp [hf]) ?_)
      | (refine wp_if_pos (by simp [hf]) ?_; refine wpAny_bind ?_)
    have hfull : (L.length + 1) * 5 ≥ t1.mask * 3 := by
      have h := hf
      unfold SetTable.tooFull at h
      rw [decide_eq_true_eq, q9, List.length_map] at h
      exact h
    rw [hsl]
    have which : (t.mask = 7 ∧ L.length = 4) ∨ (t.mask = 31 ∧ L.length = 18) := by
      rw [q4] at hfull
      rcases R.tab.mok with e | e | e <;> rw [e] at hfull hrm <;> omega
    have go : ∀ M, SetTable.sizeAbove (SetTable.grown (L.length + 1)) - 1 = M → MaskOk M → SetTable.sizeAbove (SetTable.grown (L.length + 1)) ≤ 128 → (L.length + 1) * 5 < M * 3 →
        wpAny (model P w) A (setRelay a (SetTable.grown (L.length + 1))) (fun _ s' => wpAny (model P w) A (pure true) Q E s') E { s with heap := h1 } := fun M g1 g2 g3 g4 =>
      relay_N (s := { s with heap := h1 }) ho1 ⟨hex.1, hex.2.1, hex.2.2⟩ rfl hin sz1 q3.dm (by rw [hlen, q4]; rcases which with ⟨e, e2⟩ | ⟨e, e2⟩ <;> omega) dis1 key1 hp1 led1 (by rw [hlen]; exact hfew) g1 g2 g3 (by rw [hlen]; exact g4)
        fun h2 L2 es2 ep2 t2 sb2 R2 pm2 => wpAny_pure (hQ true h2 L2 es2 ep2 t2 (sb.trans sb2) R2 (fun z => absurd z hm) fun _ => pm2.trans pm)
    rcases which with ⟨_, e2⟩ | ⟨_, e2⟩
    · exact go 31 (by rw [e2, size_20]) (.inr (.inl rfl)) (by rw [e2, size_20]; decide) (by omega)
    · exact go 127 (by rw [e2, size_76]) (.inr (.inr rfl)) (by rw [e2, size_76]; decide) (by omega)
  · first
      | refine wp_if_neg (by simp [hf]) ?_
      | (refine wpAny_bind ?_; refine wp_if_neg (by simp [hf]) ?_; refine wpAny_pure ?_)
    refine wpAny_pure (hQ true h1 L1 es1 (ep + 1) t1 sb ⟨⟨_, ho1, ⟨hex.1, hex.2.1, hex.2.2⟩, rfl⟩, hin, q3, dis1, key1, hp1, led1, ?_, by rw [hlen]; exact hfew⟩ (fun z => absurd z hm) fun _ => pm)
    have h := hf
    unfold SetTable.tooFull at h
    rw [decide_eq_true_eq, q9, List.length_map] at h
    rw [hlen]
    omega
/-- a new set -/
abbrev set0 (w : World) : Obj := { cls := .type "set", dict := none, data := .set #[] 0 (.fresh 0 0 (!w.params.followText "set-order")) }
theorem nset_new {h : Heap} {a : Addr} (ho : h.get? a = some (set0 w)) : NSet w h a [] #[] 0 (.fresh 0 0 (!w.params.followText "set-order")) where
  obj := ⟨_, ho, ⟨rfl, rfl, rfl⟩, rfl⟩
  row := rfl
  tab := ⟨List.Pairwise.nil, rfl, rfl, .inl rfl, fun x hx => (by cases hx), fun i h j hi => (by simp at hi)⟩
  dis := List.nodup_nil
  key := fun p hp => (by cases hp)
  pln := rfl
  led := by
    show _ ∨ (!w.params.followText "set-order") = true
    cases w.params.followText "set-order"
    · exact .inr rfl
    · exact .inl rfl
  rm := (by decide : 0 * 5 < 7 * 3)
  few := (by decide : 0 < 64)
theorem NSet.keep {h h' : Heap} (R : NSet w h a L es ep t) (k : ∀ c o, h.get? c = some o → h'.get? c = some o) : NSet w h' a L es ep t :=
  ⟨let ⟨o, ho, r⟩ := R.obj; ⟨o, k a o ho, r⟩, R.row, R.tab, R.dis, fun p hp => (R.key p hp).keep k, R.pln, R.led, R.rm, R.few⟩
/-- what stands in the set after the first i items -/
structure Has (ks : List NRow) (i : Nat) (L : List NRow) : Prop where
  sub : ∀ p ∈ L, p ∈ ks.take i
  all : ∀ p ∈ ks.take i, p.2 ∈ L.map (·.2)
  len : L.length ≤ i
theorem Has.next {ks L L' : List NRow} {i : Nat} {x : NRow} (g : Has ks i L) (h : ks[i]? = some x) (c1 : x.2 ∈ L.map (·.2) → L' = L) (c2 : x.2 ∉ L.map (·.2) → L'.Perm (x :: L)) : Has ks (i + 1) L' := by
  have et : ks.take (i + 1) = ks.take i ++ [x] := by rw [List.take_add_one, h]; rfl
  rcases Classical.em (x.2 ∈ L.map (·.2)) with c | c
  · rw [c1 c]
    refine ⟨fun p hp => by rw [et]; exact List.mem_append_left _ (g.sub p hp), fun p hp => ?_, Nat.le_succ_of_le g.len⟩
    rw [et] at hp
    rcases List.mem_append.mp hp with z | z
    · exact g.all p z
    · rw [List.mem_singleton.mp z]; exact c
  · have pm := c2 c
    refine ⟨fun p hp => ?_, fun p hp => ?_, by rw [pm.length_eq]; exact Nat.succ_le_succ g.len⟩
    · rw [et]
      rcases List.mem_cons.mp (pm.mem_iff.mp hp) with e | z
      · exact List.mem_append_right _ (List.mem_singleton.mpr e)
      · exact List.mem_append_left _ (g.sub p z)
    · rw [(pm.map (·.2)).mem_iff, List.map_cons]
      rw [et] at hp
      rcases List.mem_append.mp hp with z | z
      · exact List.mem_cons_of_mem _ (g.all p z)
      · rw [List.mem_singleton.mp z]; exact List.mem_cons_self
end
end K62
/-! sorted(set(..)) of nested tuples -/
namespace K62
open PySem PySem.Spec PyProof.Rows L2
section
variable {P : Program} {w : World} {A : Around} {E : Value → Shared → Prop} {s : Shared}
/-- the update loop, over anything that is walked -/
theorem update_N {I : Addr} {fp wr : List Addr} {G : Array GenState → Array GenState → Prop} {n : Nat} {Pv : Nat → Value → Prop} {St : Nat → Shared → Prop} {R : Result → Shared → Prop} (W : WalksS P w A.in1 I fp wr G n Pv St) (S : Addr) (hSf : S ∉ fp) (ks : List NRow) (hn : n = ks.length) (hfew : ks.length < 64)
    (hval : ∀ i v, Pv i v → ∃ p, ks[i]? = some p ∧ v = .ref p.1) (h0 : Heap) (hk : ∀ p ∈ ks, IsN h0 p.2 p.1) (hS0 : h0.get? S = none) (hw0 : ∀ b ∈ wr, h0.get? b = none) (hu : A.in1.units + 8 < cLine) :
    ∀ (left i : Nat) (s : Shared), n - i = left → i ≤ n → St i s → (∀ b o, h0.get? b = some o → s.heap.get? b = some o) → (∃ L es ep t, NSet w s.heap S L es ep t ∧ Has ks i L) →
      (∀ s' L es ep t, Moved (S :: wr) G s s' → NSet w s'.heap S L es ep t → Has ks n L → (∀ b o, h0.get? b = some o → s'.heap.get? b = some o) → R (.ok (.ret .none)) s') → codeAny (model P w) A (.builtin "set.update.loop" ⟨[.ref S, .ref I], []⟩) R s := by
  have hSw : S ∉ wr := fun h => hSf (W.sub _ h)
  have more : ∀ b ∈ wr, b ∈ S :: wr := fun b hb => List.mem_cons_of_mem _ hb
  have carry : ∀ {s s' : Shared}, Moved wr G s s' → (∀ b o, h0.get? b = some o → s.heap.get? b = some o) → ∀ b o, h0.get? b = some o → s'.heap.get? b = some o := fun hm hkp b o e =>
    hm.heap b o (fun hb => by rw [hw0 b hb] at e; cases e) (hkp b o e)
  have moved : ∀ {s s' : Shared} {i : Nat} {L es ep t}, Moved wr G s s' → (∀ b o, h0.get? b = some o → s'.heap.get? b = some o) → Has ks i L → NSet w s.heap S L es ep t → NSet w s'.heap S L es ep t := fun hm hkp g R =>
    ⟨let ⟨o, ho, r⟩ := R.obj; ⟨o, hm.heap S o hSw ho, r⟩, R.row, R.tab, R.dis, fun p hp => (hk p (List.mem_of_mem_take (g.sub p hp))).keep hkp, R.pln, R.led, R.rm, R.few⟩
  intro left
  induction left with
  | zero =>
    intro i s hl hi hst hkp ⟨L, es, ep, t, hS, g⟩ hR
    obtain rfl : i = n := by omega
    refine codeAny_builtin F.entry_set_update_loop ?_
    rw [Around.under_plainId F.plain_set_update_loop _]
    show wpAny _ A.in1 (pyNext (.ref I) >>= _) _ _ s
    refine wpAny_bind (W.done s _ _ hst fun s' hm => ?_)
    show wpAny _ A.in1 (ret Value.none) _ _ s'
    have hkp' := carry hm hkp
    exact wpAny_pure (hR s' L es ep t (hm.mono more) (moved hm hkp' g hS) g hkp')
  | succ left ih =>
    intro i s hl hi hst hkp ⟨L, es, ep, t, hS, g⟩ hR
    have hlt : i < n := by omega
    refine codeAny_builtin F.entry_set_update_loop ?_
    rw [Around.under_plainId F.plain_set_update_loop _]
    show wpAny _ A.in1 (pyNext (.ref I) >>= _) _ _ s
    refine wpAny_bind (W.item i s _ _ hlt hst fun v s' hP hst' hm => ?_)
    obtain ⟨p, hp, rfl⟩ := hval i v hP
    have hkp' := carry hm hkp
    have hx : IsN s'.heap p.2 p.1 := (hk p (List.mem_of_getElem? hp)).keep hkp'
    have hS' := moved hm hkp' g hS
    show wpAny _ A.in1 (holding [Value.ref p.1] (setAdd S (.ref p.1)) >>= _) _ _ s'
    refine wpAny_bind (wpAny_holding ?_)
    unfold setAdd
    refine wpAny_holding ?_
    refine wpAny_bind ((nestedKind P w).pyHash (k := p.2) hu ⟨hx.is, hx.dp⟩ ?_)
    refine add_N (s := { s' with toks := s'.toks + (nestedKind P w).draws p.2 }) hS' hx hu (by have := g.len; omega) fun b h' L' es' ep' t' hsb hS2 c1 c2 => ?_
    have hkp2 : ∀ b o, h0.get? b = some o → h'.get? b = some o := fun b o e => (hsb.2 b (fun z => by rw [z, hS0] at e; cases e)).trans (hkp' b o e)
    refine wpAny_pure ⟨plainId_quiet F.plain_set_update_loop _, ih (i + 1) _ (by omega) hlt (W.frame _ s' _ _ hst' (Nat.le_add_right _ _) fun b hb o e => ?_) hkp2 ⟨L', es', ep', t', hS2, g.next hp c1 c2⟩ fun s'' L2 es2 ep2 t2 hm'' hS'' g'' hkp'' => ?_⟩
    · rw [hsb.2 b (fun h : b = S => hSf (by rw [← h]; exact hb))]; exact e
    · refine hR s'' L2 es2 ep2 t2 (Moved.trans W.gtrans ((hm.mono more).then_heap (Nat.le_add_right _ _) fun b o hb e => ?_) hm'') hS'' g'' hkp''
      rw [hsb.2 b (fun h : b = S => hb (by rw [h]; exact List.mem_cons_self))]; exact e
set_option maxHeartbeats 3200000 in
/-- set(l) -/
theorem call_set_N {l : Addr} {items : Array Value} (ks : List NRow) {Q : Value → Shared → Prop} (hh : A.handled = none) (hl : s.heap.IsList l items) (hit : items.toList = ks.map fun p => Value.ref p.1) (hk : ∀ p ∈ ks, IsN s.heap p.2 p.1) (hfew : ks.length < 64) (hu : A.units + 20 < cLine)
    (h : ∀ (h' : Heap) (tk : Nat) L es ep t, NSet w h' s.heap.objs.size L es ep t → Has ks ks.length L → (∀ b o, s.heap.get? b = some o → h'.get? b = some o) → Q (.ref s.heap.objs.size) { s with heap := h', toks := tk }) :
    wpAny (model P w) A (call (.type "set") [.ref l]) Q E s := by
  have hisz : items.size = ks.length := by rw [← Array.length_toList, hit, List.length_map]
  obtain ⟨c, tl, hmro⟩ := F.called_set.mro
  have hmade := F.called_set.made
  have hsub := F.called_set.sub
  refine wpAny_call (codeAny_of_tree ?_)
  show wpAny _ _ (callAny (.type "set") _) _ _ _
  refine wpAny_pure ⟨Code.quiet_builtin _ (by decide +kernel), codeAny_builtin F.entry_type_call ?_⟩
  rw [Around.under_plain (weight_type_call_type "set" [.ref l] []) rfl]
  have h1 := F.called_set.notType
  have h2 := F.called_set.canCreate
  have hct := F.typeCall_set_1 (.ref l)
  repeat (any_goals (first | assumption | wp_step))
  refine codeAny_mono (code_set_led1 (.ref l) (E := E) (Q₁ := fun obj s₁ => obj = .ref s.heap.objs.size ∧ s₁ = { s with heap := s.heap.push (set0 w) }) ⟨rfl, rfl⟩) fun r s₁ hr => ?_
  cases r with
  | error e => exact hr
  | ok fl =>
    cases fl with
    | ret obj =>
      obtain ⟨rfl, rfl⟩ := hr
      have hS : (s.heap.push (set0 w)).get? s.heap.objs.size = some (set0 w) := Heap.get?_push_size _ rfl
      have hT : Shared.TypeIs { s with heap := s.heap.push (set0 w) } (.ref s.heap.objs.size) "set" := ⟨_, hS, rfl⟩
      have hli := F.called_set.init.lookup
      have hbi := F.called_set.init.bind (.ref s.heap.objs.size)
      repeat (any_goals (first | assumption | wp_step))
      refine codeAny_mono (codeAny_call_builtin (R := wants (fun r s₂ => r = .none ∧ ∃ h' tk L es ep t, s₂ = { s with heap := h', toks := tk } ∧ NSet w h' s.heap.objs.size L es ep t ∧ Has ks ks.length L ∧ (∀ b o, s.heap.get? b = some o → h'.get? b = some o)) E) F.called_set.init.plain F.entry_set_init (check_set_init_1 hT ?_)) fun r₂ s₂ hr₂ => ?_
      · obtain ⟨⟨ocls, odict, odata, oslots⟩, hol, hcl, nl, hdl⟩ := hl
        simp only at hcl hdl
        subst hcl; subst hdl
        have hol' : (s.heap.push (set0 w)).get? l = some { cls := .type "list", dict := odict, data := .seq items nl, slots := oslots } := Heap.get?_push_of_some _ hol
        have hsls := F.sub_list_set
        have hslf := F.sub_list_frozenset
        have hne : (Value.type "list" == Value.type "dict") = false := by decide
        have hl1 : (s.heap.push (set0 w)).IsList l items := ⟨_, hol', rfl, nl, rfl⟩
        unfold Builtin.«set.__init__» noKeywords Builtin.Frozenset.updateFrom
        generalize hPI : pyIter = PI
        wp_walk
        subst hPI
        refine wpAny_pyIter_list hl1 ?_
        refine wpAny_bind (wpAny_runValue ?_)
        have hlS : l < s.heap.objs.size := Heap.lt_size hol
        have hh3 : A.in1.in1.in1.handled = none := by simp [hh]
        have hz1 : (s.heap.push (set0 w)).objs.size = s.heap.objs.size + 1 := Heap.size_push ..
        have hneI : l ≠ (s.heap.push (set0 w)).objs.size := by
          rw [hz1]; exact Nat.ne_of_lt (Nat.lt_succ_of_lt hlS)
        have hSf : s.heap.objs.size ∉ [(s.heap.push (set0 w)).objs.size, l] := by
          rw [hz1]; simp only [List.mem_cons, List.mem_singleton, List.not_mem_nil, or_false, not_or]
          exact ⟨Nat.ne_of_lt (Nat.lt_succ_self _), Nat.ne_of_gt hlS⟩
        have none_of : ∀ b, s.heap.objs.size ≤ b → s.heap.get? b = none := fun b hb => by
          cases q : s.heap.get? b with
          | none => rfl
          | some o => exact absurd (Nat.lt_of_lt_of_le (Heap.lt_size q) hb) (Nat.lt_irrefl _)
        refine update_N ((Walks.list hh3 _ l hneI items).toS) s.heap.objs.size hSf ks hisz hfew (fun i v hv => ?hval) s.heap hk (none_of _ (Nat.le_refl _)) (fun b hb => none_of b (by
            rw [List.mem_singleton.mp hb, hz1]
            exact Nat.le_succ _)) (by show A.units + 1 + 1 + 1 + 8 < _; omega) (items.size - 0) 0 _ (by omega) (Nat.zero_le _)
          ⟨⟨_, Heap.get?_push_size _ rfl, rfl, rfl⟩, (hl1.push _)⟩ (fun b o e => Heap.get?_push_of_some _ (Heap.get?_push_of_some _ e)) ?hS0 ?hR
        case hval =>
          have q : items.toList[i]? = some v := by rw [Array.getElem?_toList]; exact hv
          rw [hit, List.getElem?_map] at q
          obtain ⟨p, h1, h2⟩ := Option.map_eq_some_iff.mp q
          exact ⟨p, h1, h2.symm⟩
        case hS0 => exact ⟨[], #[], 0, _, nset_new (Heap.get?_push_of_some _ hS), ⟨fun p h => (by cases h), fun p h => (by simp at h), Nat.le_refl _⟩⟩
        case hR =>
          intro s' L es ep t hm hS' g' hkp
          obtain ⟨h', g2, d', tk', os'⟩ := s'
          have eg : g2 = s.gens := hm.gens
          have ed : d' = s.drawn := hm.drawn
          have eo : os' = s.os := hm.os
          subst eg; subst ed; subst eo
          show wpAny _ _ _ _ _ _
          refine wpAny_pure ?_
          show wpAny _ _ (ret Value.none) _ _ _
          rw [hisz] at g'
          exact wpAny_pure ⟨rfl, h', tk', L, es, ep, t, rfl, hS', g', hkp⟩
      · cases r₂ with
        | error e => exact hr₂
        | ok fl₂ =>
          cases fl₂ with
          | ret r =>
            obtain ⟨rfl, h', tk, L, es, ep, t, rfl, hS', g', hk'⟩ := hr₂
            repeat (any_goals (first | assumption | wp_step))
            exact h _ _ _ _ _ _ hS' g' hk'
          | _ => exact hr₂.elim
    | _ => exact hr.elim
end
end K62
/-! sorted(set(..)) as one rule -/
namespace K62
open PySem PySem.Spec PyProof.Rows L2

/-- items that are keys -/
structure KeyE {β : Type} (enc : β → PyData) : Prop where
  inj : ∀ a b, enc a = enc b → a = b
  isk : ∀ b, isNk (enc b) = true
  nm : ∀ b, numK (nk (enc b)) = true
  dp : ∀ b, (nk (enc b)).depth ≤ 2
  dq : ∀ b, (enc b).depth ≤ 20
  tup : ∀ b, ∃ ds, enc b = .tuple ds
theorem KeyE.key {β : Type} {enc : β → PyData} (k : KeyE enc) (b : β) : KeyD (enc b) := ⟨k.isk b, k.dp b, k.tup b⟩
theorem KeyE.nkinj {β : Type} {enc : β → PyData} (k : KeyE enc) {a b : β} (h : nk (enc a) = nk (enc b)) : a = b := k.inj a b (by rw [← nk_data _ (k.isk a), h, nk_data _ (k.isk b)])
theorem each_get {β : Type} {R : Value → β → Prop} : ∀ {us : List Value} {bs : List β}, PySem.W.EachIs R us bs → ∀ (i : Nat) b, bs[i]? = some b → ∃ u, us[i]? = some u ∧ R u b
  | _, _, .nil, _, _, h => by simp at h
  | _, _, .cons h1 _, 0, b, h => by
    have e : _ = b := Option.some.inj h
    subst e
    exact ⟨_, rfl, h1⟩
  | _, _, .cons _ t, i + 1, b, h => each_get t i b (by simpa using h)
theorem each_get' {β : Type} {R : Value → β → Prop} : ∀ {us : List Value} {bs : List β}, PySem.W.EachIs R us bs → ∀ (i : Nat) u, us[i]? = some u → ∃ b, bs[i]? = some b ∧ R u b
  | _, _, .nil, _, _, h => by simp at h
  | _, _, .cons h1 _, 0, b, h => by
    have e : _ = b := Option.some.inj h
    subst e
    exact ⟨_, rfl, h1⟩
  | _, _, .cons _ t, i + 1, b, h => each_get' t i b (by simpa using h)
theorem each_make {β : Type} {R : Value → β → Prop} : ∀ {us : List Value}, (∀ u ∈ us, ∃ b, R u b) → ∃ bs, PySem.W.EachIs R us bs
  | [], _ => ⟨[], .nil⟩
  | u :: us, h => by
    obtain ⟨b, hb⟩ := h u List.mem_cons_self
    obtain ⟨bs, hbs⟩ := each_make fun v hv => h v (List.mem_cons_of_mem _ hv)
    exact ⟨b :: bs, .cons hb hbs⟩
section
variable {X : Cx} {e : Expr} {pos p p1 p2 q1 : Pos} {Γ : List Sl}
/-- the rows of a list of keys -/
theorem rows_make {β : Type} {enc : β → PyData} {pins : List (Addr × Obj)} {σ : L2.St} {H B : Hp} {s : Shared} (k : KeyE enc) (I : Inv X pins σ H s) (e : Same B H) : ∀ {us : List V} {its : List Value} {as : List β}, Vals us its → DpAll X.K B us (as.map enc) →
    ∃ ks : List NRow, its = ks.map (fun r => Value.ref r.1) ∧ (∀ r ∈ ks, IsN s.heap r.2 r.1 ∧ ∃ b ∈ as, r.2 = nk (enc b) ∧ EachV X.K B enc (.ref r.1) b) ∧ (∀ b ∈ as, ∃ r ∈ ks, r.2 = nk (enc b)) ∧ ks.length = as.length
  | _, _, [], .nil, _ => ⟨[], rfl, (fun r hr => by cases hr), (fun b hb => by cases hb), rfl⟩
  | _, _, [], .cons _ _, h => by cases h
  | _, _, _ :: _, .nil, h => by cases h
  | v :: us, u :: its, b :: as, .cons r t, h => by
    have h : DpAll X.K B (v :: us) (enc b :: as.map enc) := h
    cases h with
    | cons h1 h2 =>
      obtain ⟨ks, e1, e2, e3, e4⟩ := rows_make k I e t h2
      obtain ⟨c, rfl⟩ := key_ref h1 r (k.key b)
      have ka := key_at I (dp_mono e _ _ h1) r (k.key b)
      refine ⟨(c, nk (enc b)) :: ks, by rw [e1]; rfl, fun x hx => ?_, fun x hx => ?_, by simp [e4]⟩
      · rcases List.mem_cons.mp hx with z | z
        · subst z
          exact ⟨⟨ka.1, ka.2, k.nm b⟩, b, List.mem_cons_self, rfl, v, r, h1⟩
        · obtain ⟨g1, b', g2, g3⟩ := e2 x z
          exact ⟨g1, b', List.mem_cons_of_mem _ g2, g3⟩
      · rcases List.mem_cons.mp hx with z | z
        · subst z; exact ⟨_, List.mem_cons_self, rfl⟩
        · obtain ⟨r', g1, g2⟩ := e3 x z
          exact ⟨r', List.mem_cons_of_mem _ g1, g2⟩
/-- what sorted(set(as)) is -/
def SortSet {β : Type} (enc : β → PyData) (as : List β) (ds : List PyData) : Prop := ∃ bs : List β, bs.Nodup ∧ (∀ b, b ∈ bs ↔ b ∈ as) ∧ ds = (bs.mergeSort (PySem.W.dataLe false enc)).map enc
theorem nodup_get {α : Type} {l : List α} (h : ∀ (i j : Nat) x, l[i]? = some x → l[j]? = some x → i = j) : l.Nodup := by
  rw [List.nodup_iff_pairwise_ne, List.pairwise_iff_getElem]
  intro i j hi hj hij e
  have := h i j l[i] (List.getElem?_eq_getElem hi) (by rw [e]; exact List.getElem?_eq_getElem hj)
  omega
theorem pn_sortSet {n : Nat} {β : Type} {enc : β → PyData} {as : List β} (hc : X.calm = true) (hr : Room n X.A) (k : KeyE enc) (hal : ∀ a b, PySem.W.alike (enc a) (enc b) = true) (hk : ∀ bs : List β, (∀ b ∈ bs, b ∈ as) → PySem.W.Sortable (bs.map enc)) (hfew : as.length < 64)
    (hg : Gl X "sorted") (hm : X.mg "sorted" = none) (hg2 : Gl X "set") (hm2 : X.mg "set" = none) (ha : PE X e (tL (pwOf X) Γ (Is (as.map enc)))) (na : starEach [e] X.env = (false, eval e X.env) :: starEach [] X.env := by rfl) :
    PE X (.Call (.Name "sorted" p) [.Call (.Name "set" p2) [e] [] q1] [] pos) (tN (pwOf X) Γ (SortSet enc as)) := by
  refine ⟨fun pins s σ H Q I ⟨H0, B, E, q⟩ => ?_⟩
  refine Call_ (ld_blt I hg hm boot_sorted ?_)
  refine PyProof.Rows.callWith_builtin1 (PyProof.Rows.args_cons ?_ rfl) rfl rfl
  refine Call_ (ld_blt I hg2 hm2 PyProof.Rows.boot_set ?_)
  refine PyProof.Rows.callWith_type1 (PyProof.Rows.args_cons (thn (ha.run pins s σ H (fun v H1 => ∃ a vs B1, v = .ref a ∧ Ext B H B1 H1 ∧ SqL X.K H1 a vs ∧ DpAll X.K B1 vs (as.map enc)) I ⟨H0, B, E, fun a vs ds B1 H1 e1 s1 h1 h2 => ⟨a, vs, B1, rfl, e1, h1, by cases s1; exact h2⟩⟩) fun v s1 ⟨x, H1, I1, r1, a, vs, B1, ex, e1, h1, h2⟩ => PyProof.Rows.args_nil ?_) na) na rfl
  subst ex
  cases r1
  obtain ⟨its, rv, hl, hz⟩ := I1.list h1
  obtain ⟨ks, k1, k2, k3, k4⟩ := rows_make k I1 e1.s rv h2
  have hu := hr.un
  refine call_set_N ks (I1.ok.hd hc) hl.isList (by rw [← k1]) (fun p hp => (k2 p hp).1) (by rw [k4]; exact hfew) (by omega) fun h' tk L es ep t R g hkeep => ?_
  refine PyProof.Rows.args_nil ?_
  have I2 : Inv X pins σ H1 { s1 with heap := h', toks := tk } := I1.kept hkeep
  obtain ⟨o, ho, hex, hd⟩ := R.obj
  have hes := rows_size R.row
  have hfewL := R.few
  have sub : ∀ r ∈ L, r ∈ ks := fun r hr => List.mem_of_mem_take (g.sub r hr)
  refine sorted_from (R := EachV X.K B1 enc) (enc := enc) (collect_set (A := X.A.in1) (I2.ok.hd hc) ⟨o, ho, hex.1, hd⟩ (NSet.fit (s := { s1 with heap := h', toks := tk }) R) (by unfold scanBound; omega) R.tab.ris R.led fun s3 out kp hz3 g3 o3 pm => ?_) (by omega)
  have erow : es.toList.map (·.2) = L.map fun r => Value.ref r.1 := by
    rw [R.row, List.map_map]
    rfl
  rw [erow] at pm
  -- each value has its row and item
  have each : ∀ u ∈ out, ∃ b, ∃ r ∈ L, u = Value.ref r.1 ∧ r.2 = nk (enc b) ∧ b ∈ as ∧ EachV X.K B1 enc u b := fun u hu2 => by
    obtain ⟨r, hrL, er⟩ := List.mem_map.mp (pm.mem_iff.mp hu2)
    obtain ⟨_, b, hb, e3, e4⟩ := k2 r (sub r hrL)
    exact ⟨b, r, hrL, er.symm, e3, hb, by rw [← er]; exact e4⟩
  obtain ⟨bs, hbs⟩ := each_make each
  have same_key : ∀ r ∈ L, ∀ r' ∈ L, r.2 = r'.2 → r = r' := fun r hr1 r' hr2 ek => by
    obtain ⟨i, hi⟩ := List.mem_iff_getElem?.mp hr1
    obtain ⟨j, hj⟩ := List.mem_iff_getElem?.mp hr2
    have h1 : (L.map (·.2))[i]? = some r.2 := by rw [List.getElem?_map, hi]; rfl
    have h2 : (L.map (·.2))[j]? = some r.2 := by rw [List.getElem?_map, hj, ek]; rfl
    obtain ⟨g1, e1⟩ := List.getElem?_eq_some_iff.mp h1
    obtain ⟨g2, e2⟩ := List.getElem?_eq_some_iff.mp h2
    have hij : i = j := (List.getElem_inj R.dis).mp (e1.trans e2.symm)
    subst hij
    rw [hi] at hj
    exact Option.some.inj hj
  have same_ref : ∀ r ∈ L, ∀ r' ∈ L, r.1 = r'.1 → r = r' := fun r hr1 r' hr2 ea => same_key r hr1 r' hr2 (by
    have h1 := (R.key r hr1).is
    have h2 := (R.key r' hr2).is
    rw [ea] at h1
    exact NestedIs.inj _ _ _ h1 h2)
  have nref : (L.map fun r => Value.ref r.1).Nodup := by
    refine List.pairwise_map.mpr (List.Pairwise.imp_of_mem (fun {r r'} hr1 hr2 hne e => ?_) (nodup_of_map R.dis))
    injection e with e
    exact hne (same_ref r hr1 r' hr2 e)
  have nout : out.Nodup := pm.nodup_iff.mpr nref
  have nbs : bs.Nodup := nodup_get fun i j b hi hj => by
    obtain ⟨u, hui, r, hr1, eu, er, _⟩ := each_get hbs i b hi
    obtain ⟨u', huj, r', hr2, eu', er', _⟩ := each_get hbs j b hj
    have : r = r' := same_key r hr1 r' hr2 (er.trans er'.symm)
    subst this
    rw [eu] at hui
    rw [eu'] at huj
    obtain ⟨g1, e1⟩ := List.getElem?_eq_some_iff.mp hui
    obtain ⟨g2, e2⟩ := List.getElem?_eq_some_iff.mp huj
    exact (List.getElem_inj nout).mp (e1.trans e2.symm)
  have cover : ∀ b, b ∈ bs ↔ b ∈ as := fun b => by
    constructor
    · intro hb
      obtain ⟨i, hi⟩ := List.mem_iff_getElem?.mp hb
      obtain ⟨u, _, r, _, _, _, hba, _⟩ := each_get hbs i b hi
      exact hba
    · intro hb
      obtain ⟨r, hr1, er⟩ := k3 b hb
      have hm2 := g.all r (by rw [List.take_length]; exact hr1)
      obtain ⟨r', hr2, er'⟩ := List.mem_map.mp hm2
      have hmem : Value.ref r'.1 ∈ out := pm.mem_iff.mpr (List.mem_map.mpr ⟨r', hr2, rfl⟩)
      obtain ⟨i, hi⟩ := List.mem_iff_getElem?.mp hmem
      obtain ⟨b', hb', r'', hr3, eu, ek, _⟩ := each_get' hbs i _ hi
      injection eu with eu
      have : r' = r'' := same_ref r' hr2 r'' hr3 eu
      subst this
      have : b' = b := k.nkinj (by rw [← ek, er', er])
      rw [← this]
      exact List.mem_iff_getElem?.mpr ⟨i, hb'⟩
  have I3 : ∀ (v : V) (u : Value) (b : β), RelV v u → Dp X.K B1 v (enc b) → ∃ as, Reads s3.heap u (enc b) as := fun v u b r d => by
    obtain ⟨as2, rd⟩ := Dp.reads I2 _ _ _ (dp_mono e1.s _ _ d) r
    exact ⟨as2, PyProof.Rows.Reads.keeps kp rd⟩
  have hlen : bs.length < 64 := by
    have h1 := hbs.length
    have h2 := pm.length_eq
    rw [List.length_map] at h2
    omega
  refine ⟨bs, hbs.mono fun u b ⟨r, _, _, _, _, v, r1, d⟩ => ⟨⟨v, r1, d⟩, k.isk b, I3 v u b r1 d⟩, PySem.W.AllAlike.of fun a b => hal a b, hk bs (fun b hb => (cover b).mp hb), by omega, fun b _ => k.dq b, fun out2 h4 c kp2 hg4 ho4 hO => ?_⟩
  obtain ⟨zs, z1, z2⟩ := of_each hO
  have hn : H1 s3.heap.objs.size = none := I2.hok.fresh hz3
  have I4 : Inv X pins σ (upd H1 s3.heap.objs.size (.lst zs)) { s3 with heap := h4 } := I2.call' (ch := []) (s' := { s3 with heap := h4 }) o3 (Un.laid (fun b u eb => kp2 b u (kp b u eb)) hz3 hn) (I2.hok.laid (fun b u eb => kp2 b u (kp b u eb)) hz3 ⟨by rw [z1.length, ho4, sizeLine_eq]; omega, out2, c, z1, hg4⟩) (by show AllBare s3.gens; rw [g3]; exact I2.bare) (fun _ z => nomatch z)
  refine ⟨.ref _, _, I4, rfl, ?_⟩
  exact q _ zs _ B1 _ (e1.trans (Ext.hid e1.s hn)) ⟨bs, nbs, cover, rfl⟩ (e1.h.free hn) (e1.s.free hn) upd_same z2
end
end K62
/-! the pot; ints that are known by a property -/
namespace K62
open PySem PySem.Spec PyProof.Rows L2

/-- an int with a property -/
def IntP (R : Int → Prop) : Dd → Prop := fun d => ∃ n, R n ∧ d = .p (.int n)
section
variable {X : Cx} {e a b c : Expr} {es : List Expr} {pos spos p p1 p2 : Pos} {Γ : List Sl} {κ : Pw} {x y z : Str} {rest : List Stmt} {po : Po} {R R' S : Int → Prop} {T : List PyData → Prop}
theorem pdr_is {n : Int} (h : PE X e (tD κ Γ (IsI n))) (hn : R n) : PE X e (tD κ Γ (IntP R)) := pd_imp h fun d s => by cases s; exact ⟨n, hn, rfl⟩
theorem pdr_imp (h : PE X e (tD κ Γ (IntP R))) (m : ∀ n, R n → S n) : PE X e (tD κ Γ (IntP S)) := pd_imp h fun d ⟨n, h1, h2⟩ => ⟨n, m n h1, h2⟩
theorem pdr_op {op : Operator} {C : Int → Int → Prop} {g : Int → Int → Int} (ho : OpR X (binaryOp op) (rI C fun i j => .int (g i j))) (h : ∀ i j, R i → R' j → C i j ∧ S (g i j)) (ha : PE X a (tD κ Γ (IntP R))) (hb : PE X b (tD κ Γ (IntP R'))) : PE X (.BinOp a op b pos) (tD κ Γ (IntP S)) :=
  pd_op ho (fun x y ⟨i, h1, ei⟩ ⟨j, h2, ej⟩ => by
    subst ei ej
    intro B H v w e r1 r2 Q q
    exact does_I (h i j h1 h2).1 B H v w e r1 r2 Q fun z d B' H' e' s r => q z d B' H' e' ⟨_, (h i j h1 h2).2, s⟩ r) ha hb
theorem pdr_op0 {op : Operator} {g : Int → Int → Int} (ho : OpR X (binaryOp op) (rI0 fun i j => .int (g i j))) (h : ∀ i j, R i → R' j → S (g i j)) (ha : PE X a (tD κ Γ (IntP R))) (hb : PE X b (tD κ Γ (IntP R'))) : PE X (.BinOp a op b pos) (tD κ Γ (IntP S)) :=
  pd_op ho (fun x y ⟨i, h1, ei⟩ ⟨j, h2, ej⟩ => by
    subst ei ej
    intro B H v w e r1 r2 Q q
    exact does_I0 B H v w e r1 r2 Q fun z d B' H' e' s r => q z d B' H' e' ⟨_, h i j h1 h2, s⟩ r) ha hb
theorem pdr_add (h : ∀ i j, R i → R' j → S (i + j)) (ha : PE X a (tD κ Γ (IntP R))) (hb : PE X b (tD κ Γ (IntP R'))) : PE X (.BinOp a .Add b pos) (tD κ Γ (IntP S)) := pdr_op0 op_add h ha hb
theorem pdr_mul (h : ∀ i j, R i → R' j → CMul i j ∧ S (i * j)) (ha : PE X a (tD κ Γ (IntP R))) (hb : PE X b (tD κ Γ (IntP R'))) : PE X (.BinOp a .Mult b pos) (tD κ Γ (IntP S)) := pdr_op op_mul h ha hb
theorem pdr_mod (h : ∀ i j, R i → R' j → 0 < j ∧ S (i % j)) (ha : PE X a (tD κ Γ (IntP R))) (hb : PE X b (tD κ Γ (IntP R'))) : PE X (.BinOp a .Mod b pos) (tD κ Γ (IntP S)) := pdr_op op_mod h ha hb
theorem pdr_fdiv (h : ∀ i j, R i → R' j → CDiv i j ∧ S (i / j)) (ha : PE X a (tD κ Γ (IntP R))) (hb : PE X b (tD κ Γ (IntP R'))) : PE X (.BinOp a .FloorDiv b pos) (tD κ Γ (IntP S)) := pdr_op op_fdiv h ha hb
theorem pdr_int (hg : Gl X "int") (hm : X.mg "int" = none) (ha : PE X e (tD κ Γ (IntP R))) (hs : starEach [e] X.env = (false, eval e X.env) :: starEach [] X.env := by rfl) : PE X (.Call (.Name "int" p) [e] [] pos) (tD κ Γ (IntP R)) :=
  pe_mono (pe_callTy call_int1 hg hm (by decide +kernel) (pa_cons ha pa_nil hs) (by decide) (by decide) hs rfl) fun σ H Q ⟨H0, B, E, q⟩ => ⟨H0, B, E, fun v d B1 H1 e1 ⟨n, h1, h2⟩ r => by
    subst h2
    cases rep_int r
    exact .inl ⟨n, rfl, q _ _ B1 H1 e1 ⟨n, h1, rfl⟩ (Dp.int n)⟩⟩
/-- of any int: the test a > 0 -/
theorem ptr_gt0 (ha : PE X a (tD κ Γ (IntP R))) (hb : PE X b (tD κ Γ (IsI 0))) : PT X (.Compare a [.Gt] [b] pos) (tT κ Γ (fun _ => True)) := pt_op op_gt (nomark _) (fun x y ⟨i, h1, ei⟩ hy => by
  subst ei
  cases hy
  intro B H v w e r1 r2 Q q
  cases rep_int r1
  cases rep_int r2
  exact ⟨i, 0, rfl, rfl, q _ _ B H (Ext.refl e) ⟨_, trivial, rfl⟩ (Dp.bl _)⟩) ha hb

/-! ### the pot's list, shown and hidden -/
theorem pot_at {pins : List (Addr × Obj)} {σ : L2.St} {H : Hp} {s : Shared} {q : Addr} (I : Inv X pins σ H s) (h : H q = some (potO q)) : ∃ i j, PotI i j ∧ Inv X pins σ (upd H q (.lst [.int i, .int j])) s := by
  obtain ⟨⟨i, j, t, u, n, ho, hp⟩, _, _⟩ := (show ObjOk X.prog X.w H s.heap q (potO q) from I.hok q _ h)
  refine ⟨i, j, hp, ?_⟩
  have := I.write (x := q) (e := q) (o := .lst [.int i, .int j]) (h' := s.heap) (t' := s.toks) (by rw [h]; exact trivial) (.inl rfl) (fun _ _ _ z => z) ⟨_, ho⟩ ⟨by rw [sizeLine_eq]; simp, [.int i t, .int j u], n, .cons ⟨_, rfl⟩ (.cons ⟨_, rfl⟩ .nil), ho⟩
  exact this
theorem pot_hide {pins : List (Addr × Obj)} {σ : L2.St} {H : Hp} {s : Shared} {q : Addr} {i j : Int} (I : Inv X pins σ H s) (h : H q = some (.lst [.int i, .int j])) (hp : PotI i j) : Inv X pins σ (upd H q (potO q)) s := by
  obtain ⟨hz, its, n, rv, ho⟩ := (show ObjOk X.prog X.w H s.heap q (.lst [.int i, .int j]) from I.hok q _ h)
  obtain ⟨u1, u2, rfl, ⟨t, rfl⟩, ⟨t', rfl⟩⟩ := vals2 rv
  have key : potF q s.heap := ⟨i, j, t, t', n, ho, hp⟩
  have st : ∀ h1 h2 : Heap, potF q h1 → (∀ o, h1.get? q = some o → h2.get? q = some o) → potF q h2 := fun h1 h2 ⟨a, b, t, u, n, z, p⟩ k => ⟨a, b, t, u, n, k _ z, p⟩
  have := I.write (x := q) (e := q) (o := potO q) (h' := s.heap) (t' := s.toks) (by rw [h]; exact trivial) (.inl rfl) (fun _ _ _ z => z) ⟨_, ho⟩ ⟨key, ⟨_, ho⟩, st⟩
  exact this
theorem upd_back {H : Hp} {q : Addr} {o o' : HO} (h : H q = some o) : upd (upd H q o') q o = H := by
  funext b
  by_cases hb : b = q
  · subst hb; rw [upd_same, h]
  · rw [upd_ne hb, upd_ne hb]
theorem at2_0 {a b : V} : atI [a, b] 0 = some a := rfl
theorem at2_1 {a b : V} : atI [a, b] 1 = some b := rfl
/-- pot[0], pot[1] -/
def rIxPot (k : Nat) : R2 := fun x y H Q => ∃ q, x = .ref q ∧ y = .int (k : Int) ∧ H q = some (potO q) ∧ ∀ n : Int, 0 ≤ n → (k = 1 → n < 4294967296) → Q (.int n) H
theorem ix_pot {k : Nat} (hk : k < 2) : IxR X (rIxPot k) := by
  intro value slice pins s σ H x y v u Q I rx ry ⟨q, ex, ey, hq, h⟩ hs
  subst ex ey
  obtain ⟨i, j, hp, I1⟩ := pot_at I hq
  obtain ⟨n, hn, h0, h1⟩ : ∃ n : Int, atI [V.int i, V.int j] (k : Int) = some (.int n) ∧ 0 ≤ n ∧ (k = 1 → n < 4294967296) := by
    obtain ⟨p1, p2, p3⟩ := hp
    rcases (by omega : k = 0 ∨ k = 1) with rfl | rfl
    · exact ⟨i, rfl, p1, fun z => by omega⟩
    · exact ⟨j, rfl, p2, fun _ => p3⟩
  refine wpAny_mono (ix_list value slice pins s σ _ _ _ v u (fun z H' => z = .int n ∧ H' = upd H q (.lst [.int i, .int j])) I1 rx ry ⟨q, _, (k : Int), _, rfl, rfl, .of upd_same, hn, rfl, rfl⟩ hs) (fun r s' ⟨z, H', I2, rz, e1, e2⟩ => ?_) fun _ _ z => z
  subst e1 e2
  have I3 := pot_hide I2 upd_same hp
  rw [upd_back hq] at I3
  exact ⟨.int n, H, I3, rz, h n h0 h1⟩
theorem pdr_pot0 (i : Nat) {xpos : Pos} {j} (hd : Γ[i]? = some (.d .pot) := by rfl) (hN : X.N[i]? = some x := by rfl) (hv : Vis X.env.scope x := by first | exact Or.inl rfl | exact Or.inr (Or.inl rfl) | exact Or.inr (Or.inr rfl)) (h1 : (x == ("__debug__" : Str)) = false := by decide)
    (h2 : (x == ("__classdict__" : Str)) = false := by decide) : PE X (.Subscript (.Name x p1) (.Constant (.int 0) j xpos) pos) (tD κ Γ (IntP fun n => 0 ≤ n)) :=
  pe_mono (pe_ix (ix_pot (k := 0) (by decide)) (pd_var i hd hN hv h1 h2) (pd_int (κ := κ)) (fun _ _ => rfl)) fun σ H Q ⟨H0, B, E, q⟩ => ⟨H0, B, E, fun v d B1 H1 e1 s1 r1 => ⟨H0, B1, E.ext e1, fun w dw B2 H2 e2 s2 r2 => by
    cases s1; cases s2; cases rep_int r2
    obtain ⟨a, rfl, ha⟩ := r1
    exact ⟨a, rfl, rfl, (e2.b.trans e2.s) _ _ ha, fun n h0 _ => q _ _ B2 H2 (e1.trans e2) ⟨n, h0, rfl⟩ (Dp.int n)⟩⟩⟩
theorem pdr_pot1 (i : Nat) {xpos : Pos} {j} (hd : Γ[i]? = some (.d .pot) := by rfl) (hN : X.N[i]? = some x := by rfl) (hv : Vis X.env.scope x := by first | exact Or.inl rfl | exact Or.inr (Or.inl rfl) | exact Or.inr (Or.inr rfl)) (h1 : (x == ("__debug__" : Str)) = false := by decide)
    (h2 : (x == ("__classdict__" : Str)) = false := by decide) : PE X (.Subscript (.Name x p1) (.Constant (.int 1) j xpos) pos) (tD κ Γ (IntP fun n => 0 ≤ n ∧ n < 4294967296)) :=
  pe_mono (pe_ix (ix_pot (k := 1) (by decide)) (pd_var i hd hN hv h1 h2) (pd_int (κ := κ)) (fun _ _ => rfl)) fun σ H Q ⟨H0, B, E, q⟩ => ⟨H0, B, E, fun v d B1 H1 e1 s1 r1 => ⟨H0, B1, E.ext e1, fun w dw B2 H2 e2 s2 r2 => by
    cases s1; cases s2; cases rep_int r2
    obtain ⟨a, rfl, ha⟩ := r1
    exact ⟨a, rfl, rfl, (e2.b.trans e2.s) _ _ ha, fun n h0 hb => q _ _ B2 H2 (e1.trans e2) ⟨n, ⟨h0, hb rfl⟩, rfl⟩ (Dp.int n)⟩⟩⟩
/-- pot[k] = n -/
def rSetPot (k : Nat) : TSet := fun o i v H Q => ∃ q n, o = .ref q ∧ i = .int (k : Int) ∧ v = .int n ∧ H q = some (potO q) ∧ 0 ≤ n ∧ (k = 1 → n < 4294967296) ∧ Q H
theorem set_pot {k : Nat} (hk : k < 2) : PSet X (rSetPot k) := by
  intro pins s σ H o i v ov iv u Q I ro ri rv ⟨q, n, eo, ei, ev, hq, h0, h1, h⟩
  subst eo ei ev
  obtain ⟨i, j, hp, I1⟩ := pot_at I hq
  obtain ⟨hk2, i', j', e1, hp2⟩ : ixN [V.int i, V.int j].length (k : Int) = some k ∧ ∃ i' j', [V.int i, V.int j].set k (.int n) = [.int i', .int j'] ∧ PotI i' j' := by
    obtain ⟨p1, p2, p3⟩ := hp
    rcases (by omega : k = 0 ∨ k = 1) with rfl | rfl
    · exact ⟨rfl, n, j, rfl, h0, p2, p3⟩
    · exact ⟨rfl, i, n, rfl, p1, h0, h1 rfl⟩
  refine wpAny_mono (set_list pins s σ _ _ _ _ ov iv u (fun H' => H' = upd (upd H q (.lst [.int i, .int j])) q (.lst ([V.int i, V.int j].set k (.int n)))) I1 ro ri rv ⟨q, _, (k : Int), k, rfl, rfl, upd_same, hk2, rfl⟩) (fun r s' ⟨H', I2, e2⟩ => ?_) fun _ _ z => z
  subst e2
  rw [e1] at I2
  have I3 := pot_hide I2 upd_same hp2
  have eH : upd (upd (upd H q (.lst [.int i, .int j])) q (.lst [.int i', .int j'])) q (potO q) = H := by
    funext b
    by_cases hb : b = q
    · subst hb; rw [upd_same, hq]
    · rw [upd_ne hb, upd_ne hb, upd_ne hb]
  rw [eH] at I3
  exact ⟨H, I3, h⟩
/-- a new list [i, j] becomes the pot -/
theorem pe_hide (h : PE X e (tN κ Γ (fun ds => ∃ i j, PotI i j ∧ ds = [.int i, .int j]))) : PE X e (tD κ Γ (Is .pot)) := by
  refine ⟨fun pins s σ H Q I ⟨H0, B, E, q⟩ => ?_⟩
  refine thn (h.run pins s σ H (fun v H1 => ∃ a B1 i j, v = .ref a ∧ Ext B H B1 H1 ∧ H a = none ∧ B1 a = none ∧ H1 a = some (.lst [.int i, .int j]) ∧ PotI i j) I ⟨H0, B, E, fun a vs ds B1 H1 e1 ⟨i, j, hp, ed⟩ n1 n2 h1 h2 => ?_⟩) fun u s1 ⟨v, H1, I1, r1, a, B1, i, j, ev, e1, n1, n2, h1, hp⟩ => ?_
  · subst ed
    have : vs = [.int i, .int j] := dpAll_int_eq (ns := [i, j]) h2
    subst this
    exact ⟨a, B1, i, j, rfl, e1, n1, n2, h1, hp⟩
  · subst ev
    have I2 := pot_hide I1 h1 hp
    exact ⟨.ref a, _, I2, r1, q (.ref a) .pot _ _ ((e1.mut (o := potO a) n1 n2).show_ n1 n2 upd_same) rfl ⟨a, rfl, upd_same⟩⟩
/-- divmod(a, b), b from 1 on -/
theorem pd_divmod {n : Int} (hg : Gl X "divmod") (hm : X.mg "divmod" = none) (h1 : 0 < n) (h2 : n < 1073741824) (ha : PE X a (tD κ Γ (IntP fun i => 0 ≤ i))) (hb : PE X b (tD κ Γ (IsI n))) (hs : starEach [a, b] X.env = (false, eval a X.env) :: starEach [b] X.env := by rfl) (hs' : starEach [b] X.env = (false, eval b X.env) :: starEach [] X.env := by rfl)
    (hpl : (backTo pos (starEach [b] X.env)).any (·.1) = false := by rfl) : PE X (.Call (.Name "divmod" p) [a, b] [] pos) (tD κ Γ (fun d => ∃ i r : Int, 0 ≤ i ∧ 0 ≤ r ∧ r < n ∧ d = .p (.tuple [.int i, .int r]))) :=
  pe_mono (pe_callB call_divmod hg hm (by decide +kernel) (pa_cons ha (pa_cons hb pa_nil hs') hs) (by decide) (by decide) hs hpl) fun σ H Q ⟨H0, B, E, q⟩ => ⟨H0, B, E, fun v d B1 H1 e1 ⟨i, hi, ed⟩ r1 => ⟨H0, B1, E.ext e1, fun w dw B2 H2 e2 s2 r2 => by
    subst ed
    cases s2
    cases rep_int r1
    cases rep_int r2
    refine ⟨i, n, rfl, ⟨h1, h2⟩, fun t ht => ?_⟩
    have x := Ext.new (o := .tup [.int (i / n), .int (i % n)]) e2.s ht
    exact q _ _ _ _ ((e1.trans e2).trans x) ⟨i / n, i % n, Int.ediv_nonneg hi (by omega), Int.emod_nonneg _ (by omega), Int.emod_lt_of_pos _ h1, rfl⟩ (Dp.tup (.of upd_same) (.cons (.int _) (.cons (.int _) .nil)))⟩⟩
/-- pot[0], y = e -/
theorem ss_potPair (i j : Nat) {n : Int} {k xpos tpos kt} {pj : Pos} (hc : X.calm = true) (he : PE X e (tD κ Γ (fun d => ∃ i r : Int, 0 ≤ i ∧ 0 ≤ r ∧ r < n ∧ d = .p (.tuple [.int i, .int r])))) (hκ : κ.K = X.K) (hr : ∀ r : Int, 0 ≤ r → r < n → PSs X rest (tS κ (Γ.set j (.d (.p (.int r)))) po)) (hN : X.N.Nodup)
    (hd : Γ[i]? = some (.d .pot) := by rfl) (hi : X.N[i]? = some x := by rfl) (hj : X.N[j]? = some y := by rfl) (hv : Vis X.env.scope x := by first | exact Or.inl rfl | exact Or.inr (Or.inl rfl) | exact Or.inr (Or.inr rfl)) (hy : Loc X.env.scope y := by first | exact Or.inl rfl | exact Or.inr rfl) (hf : X.fn y = true := by rfl)
    (h1 : (x == ("__debug__" : Str)) = false := by decide) (h2 : (x == ("__classdict__" : Str)) = false := by decide)
    (hs : swapsWithSole [.Tuple [.Subscript (.Name x p1) (.Constant (.int 0) k xpos) p2, .Name y pj] kt tpos] e pos.line X.env = pure false := by rfl) (hw : swappedStores [.Tuple [.Subscript (.Name x p1) (.Constant (.int 0) k xpos) p2, .Name y pj] kt tpos] e X.env = pure none := by rfl)
    (hone : (assignEach [.Tuple [.Subscript (.Name x p1) (.Constant (.int 0) k xpos) p2, .Name y pj] kt tpos] X.env).map (·.2) = [assign (.Tuple [.Subscript (.Name x p1) (.Constant (.int 0) k xpos) p2, .Name y pj] kt tpos) X.env] := by rfl) :
    PSs X (.Assign [.Tuple [.Subscript (.Name x p1) (.Constant (.int 0) k xpos) p2, .Name y pj] kt tpos] e pos :: rest) (tS κ Γ po) := by
  refine ss_then (C := fun Γ' => ∃ r : Int, 0 ≤ r ∧ r < n ∧ Γ' = Γ.set j (.d (.p (.int r)))) (ps_asg he (pg_tup (n := 2) hc (pgs_cons (pg_sub (pe_var hi hv h1 h2) pe_int (set_pot (k := 0) (by decide))) (pgs_cons (pg_name hN hj hy (.inl hf)) pgs_nil))) hs hw hone) (fun Γ' ⟨r, g1, g2, e⟩ => e ▸ hr r g1 g2) fun D σ H ⟨B0, H0, B, x0, E, q1, q2, q3⟩ => ?_
  refine ⟨H0, B, E, fun v d B1 H1 e1 ⟨q, r, hq0, hr0, hr1, ed⟩ rep => ?_⟩
  subst ed
  obtain ⟨t, vs, rfl, ht, hvs⟩ := rep_tup rep
  have : vs = [.int q, .int r] := dpAll_int_eq (ns := [q, r]) hvs
  subst this
  obtain ⟨w, hw1, a, rfl, ha⟩ := (E.ext e1).d hd
  have hq : H1 a = some (potO a) := e1.s _ _ ha
  have hT : SqT X.K H1 t [.int q, .int r] := by
    rw [← hκ]
    exact same_t e1.s ht
  refine ⟨t, _, rfl, hT, rfl, .int q, [.int r], rfl, ⟨.ref a, hw1, a, q, rfl, rfl, rfl, hq, hq0, (fun z => by cases z), .int r, [], rfl, rfl, ?_⟩⟩
  exact q1 _ _ B1 H1 ⟨r, hr0, hr1, rfl⟩ (x0.trans e1) ((E.ext e1).setD (x := .p (.int r)) (Dp.int r))
/-- pot[1] = e -/
theorem ss_potSet (i : Nat) {k xpos} (he : PE X e (tD κ Γ (IntP fun n => 0 ≤ n ∧ n < 4294967296))) (hr : PSs X rest (tS κ Γ po)) (hd : Γ[i]? = some (.d .pot) := by rfl) (hi : X.N[i]? = some x := by rfl) (hv : Vis X.env.scope x := by first | exact Or.inl rfl | exact Or.inr (Or.inl rfl) | exact Or.inr (Or.inr rfl))
    (h1 : (x == ("__debug__" : Str)) = false := by decide) (h2 : (x == ("__classdict__" : Str)) = false := by decide) (hs : swapsWithSole [.Subscript (.Name x p1) (.Constant (.int 1) k xpos) p2] e pos.line X.env = pure false := by rfl) (hw : swappedStores [.Subscript (.Name x p1) (.Constant (.int 1) k xpos) p2] e X.env = pure none := by rfl)
    (hone : (assignEach [.Subscript (.Name x p1) (.Constant (.int 1) k xpos) p2] X.env).map (·.2) = [assign (.Subscript (.Name x p1) (.Constant (.int 1) k xpos) p2) X.env] := by rfl) :
    PSs X (.Assign [.Subscript (.Name x p1) (.Constant (.int 1) k xpos) p2] e pos :: rest) (tS κ Γ po) := by
  refine ss_then (C := Is Γ) (ps_asg he (pg_sub (pe_var hi hv h1 h2) pe_int (set_pot (k := 1) (by decide))) hs hw hone) (fun Γ' e => by cases e; exact hr) fun D σ H ⟨B0, H0, B, x0, E, q1, q2, q3⟩ => ?_
  refine ⟨H0, B, E, fun v d B1 H1 e1 ⟨n, hn, ed⟩ rep => ?_⟩
  subst ed
  cases rep_int rep
  obtain ⟨w, hw1, a, rfl, ha⟩ := (E.ext e1).d hd
  exact ⟨.ref a, hw1, a, n, rfl, rfl, rfl, e1.s _ _ ha, hn.1, fun _ => hn.2, q1 _ _ B1 H1 rfl (x0.trans e1) (E.ext e1)⟩
end
end K62
/-! the law's own call -/
namespace K62
open PySem PySem.Spec PyProof.Rows L2
section
variable {P : Program} {w : World} {K : PySem.W.Frag} {mg mb : Str → Option Value} {k : Nat} {fa a : Addr} {fd : FuncData} {x : Str} {φ : Ph} {s : Shared} {vs : List Value} {ns : List Int}
abbrev Done (s : Shared) : Result → Shared → Prop := fun r s' => r = .ok (.ret (.bool true)) ∧ OldK s.heap s'.heap ∧ s'.os = s.os ∧ AllBare s'.gens
/-- over an abstract heap in which the script alone may stand -/
theorem law_at {H : Hp} (KX : K.In s.heap) (hns : s.heap.Ns mainGlobals mg) (hb : s.heap.Ns builtinsNs mb) (hbb : ∀ x : Str, x ≠ "__name__" → mb x = bootBuiltins x) (hlim : s.heap.NoLimit) (hg : s.gens = #[]) (ha : s.heap.get? a = some { cls := .type "list", data := .seq vs.toArray })
    (hr : Room k callerA) (F : ∀ base : Heap, K.In base → base.Ns mainGlobals mg → FnG P w K mg base k fa fd [x] (spG ⟨P, w, K⟩ φ)) (hbind : ∀ (s : Shared) (u : Value), BindsTo s fd ⟨[u], []⟩ [(x, u)]) (hφ : φ [.p (.list (ns.map .int))] (IsB true) Nn)
    (hO : Only H) (hS : SqL K H a (ns.map V.int)) (hok : HOk P w H s.heap) (hA : ∀ b, H b ≠ none → b = a) (hK : H a ≠ none → K.lookup a = none) : codeAny (model P w) callerA (.call (.ref fa) ⟨[.ref a], []⟩) (Done s) s := by
  have dict_no : ∀ {b : Addr} {o : Obj} {es : Array DictEntry} {ep : Nat}, s.heap.get? b = some o → o.data = .dict es ep → H b = none := fun {b o es ep} e d => by
    rcases Option.eq_none_or_eq_some (H b) with q | ⟨u, q⟩
    · exact q
    · exfalso
      have e' : b = a := hA b (by rw [q]; simp)
      rw [e', ha] at e
      cases e
      exact nomatch d
  have keepNs : ∀ {b : Addr} {m : Str → Option Value}, s.heap.Ns b m → (hidT s.heap H).Ns b m := fun ⟨o, es, ep, e, d, r⟩ => ⟨o, es, ep, hidT_get e (dict_no e d), d, r⟩
  have keepK : K.In (hidT s.heap H) := fun b o e => by
    refine hidT_get (KX b o e) ?_
    rcases Option.eq_none_or_eq_some (H b) with q | ⟨u, q⟩
    · exact q
    · exfalso
      have e' : b = a := hA b (by rw [q]; simp)
      rw [e', hK (by rw [← e', q]; simp)] at e
      cases e
  have md : Mod K mg (hidT s.heap H) := ⟨keepK, keepNs hns, ⟨mb, keepNs hb, hbb⟩, let ⟨mc, h1, h2⟩ := hlim; ⟨mc, keepNs h1, h2⟩⟩
  have e0 : Env0 P w K mg (hidT s.heap H) callerA [] s H := ⟨rfl, md, fun b o e => of_hidT e, Nat.le_of_eq (hidT_size _ _), trivial, fun b hm => absurd (show b ∈ ([] : List Addr) from hm) (by simp), hok, .of_eq hg⟩
  have sp : spG ⟨P, w, K⟩ φ [.ref a] H (fun v _ => v = .bl true) E0 := ⟨H, [.p (.list (ns.map .int))], IsB true, Nn, Same.refl _, .cons (show Rep ⟨P, w, K⟩ H (.ref a) (.p (.list (ns.map .int))) from Dp.lst hS (dpAll_ints ns)) .nil, hφ, fun v d B' H' _ e r => by cases e; exact rep_bool r, fun _ _ _ _ _ _ z => z.elim⟩
  refine codeAny_mono ((F _ keepK (keepNs hns)).run callerA [] s H ⟨[.ref a], []⟩ [.ref a] [.ref a] _ rfl hr e0 (hbind s (.ref a)) (.cons rfl .nil) sp) fun r s' h => ?_
  match r, h with
  | .error e, h => exact False.elim h
  | .ok .next, h => exact False.elim h
  | .ok .brk, h => exact False.elim h
  | .ok .cont, h => exact False.elim h
  | .ok (.ret u), h =>
    obtain ⟨v, H', os, bare, un, hok', r', q⟩ := h
    have q' : v = .bl true := q
    subst q'
    have hu : u = Value.bool true := r'
    subst hu
    refine ⟨rfl, OldK.of_keep fun b o e => ?_, os, bare⟩
    rcases hO b with q | ⟨ob, xs, z⟩
    · exact un.keep b o e q (fun z => absurd (show b ∈ ([] : List Addr) from z) (by simp)) (by simp)
    · obtain ⟨e1, _⟩ := hok b _ z
      obtain ⟨e2, _⟩ := hok' b _ (un.frzs b ob _ z)
      rw [e] at e1
      cases e1
      exact e2
/-- THE HEAD -/
theorem law_callG (KX : K.In s.heap) (hns : s.heap.Ns mainGlobals mg) (hb : s.heap.Ns builtinsNs mb) (hbb : ∀ x : Str, x ≠ "__name__" → mb x = bootBuiltins x) (hlim : s.heap.NoLimit) (hg : s.gens = #[]) (ha : s.heap.get? a = some { cls := .type "list", data := .seq vs.toArray }) (hi : IntsAre vs ns) (hl : ns.length ≤ sizeLine)
    (hr : Room k callerA) (F : ∀ base : Heap, K.In base → base.Ns mainGlobals mg → FnG P w K mg base k fa fd [x] (spG ⟨P, w, K⟩ φ)) (hbind : ∀ (s : Shared) (u : Value), BindsTo s fd ⟨[u], []⟩ [(x, u)]) (hφ : φ [.p (.list (ns.map .int))] (IsB true) Nn) : codeAny (model P w) callerA (.call (.ref fa) ⟨[.ref a], []⟩) (Done s) s := by
  have rv := vals_ints hi
  rcases Option.eq_none_or_eq_some (K.lookup a) with hk | ⟨o, hk⟩
  · let Hs : Hp := fun b => if b = a then some (.frz { cls := .type "list", data := .seq vs.toArray } (.lst (ns.map V.int))) else none
    have at_a : Hs a = some (.frz { cls := .type "list", data := .seq vs.toArray } (.lst (ns.map V.int))) := if_pos rfl
    have off : ∀ b, b ≠ a → Hs b = none := fun b hb => if_neg hb
    refine law_at (H := Hs) KX hns hb hbb hlim hg ha hr F hbind hφ (fun b => ?_) (.inl (.inr ⟨_, at_a⟩)) (fun b u z => ?_) (fun b z => Classical.byContradiction fun hb => z (off b hb)) fun _ => hk
    · rcases Classical.em (b = a) with e | e
      · exact .inr ⟨_, _, by rw [e]; exact at_a⟩
      · exact .inl (off b e)
    · rcases Classical.em (b = a) with e | e
      · subst e
        rw [at_a] at z
        cases z
        exact ⟨ha, by rw [List.length_map]; exact hl, vs, _, rv, ha⟩
      · rw [off b e] at z
        cases z
  · have e := KX a o hk
    rw [ha] at e
    cases e
    exact law_at (H := fun _ => none) KX hns hb hbb hlim hg ha hr F hbind hφ (fun _ => .inl rfl) (.inr ⟨_, vs.toArray, _, hk, rfl, rfl, rfl, by rw [List.size_toArray, hi.length]; exact hl, by simpa using rv⟩) (fun b u z => nomatch z) (fun b z => absurd rfl z) fun z => absurd rfl z
end
/-- what k_head leaves -/
theorem walk_ofG {l : PySem.W.OpenLaw} {n k : Nat} {q : Program} {loose : List Str} {XP : (Str → Option Value) → Heap → Prop} {YP : World → Heap → Prop} {d : DefRec} {K : Params → PySem.W.Frag} {φ : Ph} {x : Str} (hn : l.most = some n) (hn2 : n ≤ sizeLine) (hdf : d.params.defaults = []) (hr : Room k callerA)
    (hY : ∀ (w : World) (h : Heap), YP w h → (K w.params).In h)
    (F : ∀ (w : World) (mg : Str → Option Value) (fa : Addr) (h : Heap), (K w.params).In h → h.Ns mainGlobals mg → mg d.name = some (.ref fa) → ∃ fd : FuncData, (∀ (s : Shared) (u : Value), BindsTo s fd ⟨[u], []⟩ [(x, u)]) ∧
      ∀ base : Heap, (K w.params).In base → base.Ns mainGlobals mg → FnG l.prog w (K w.params) mg base k fa fd [x] (spG ⟨l.prog, w, K w.params⟩ φ))
    (hφ : ∀ ns : List Int, ns.length ≤ n → φ [.p (.list (ns.map .int))] (IsB true) Nn) : PySem.W.WalkO q loose XP YP l.row.toRowW d [] (fun f vs => PySem.call f vs) := by
  refine Att.attach_call hn hdf fun w s0 s1 mg mb fa o pm cd doc a vs ns Gr Y ho hd hcd hmg hobj hints hlen hg => ?_
  have KX := hY w _ Y
  obtain ⟨fd, hb, hF⟩ := F w mg fa _ KX Gr.T.g hmg
  exact law_callG KX Gr.T.g Gr.T.b Gr.T.builtins Gr.T.nolimit hg hobj hints (Nat.le_trans hlen hn2) hr hF hb (hφ ns hlen)
end K62
/-! plain: rows, stacks and their order -/
namespace K62
open PySem PySem.Spec PyProof.Rows

abbrev Vec := List Int
abbrev Stk := List Vec
def eV (v : Vec) : PyData := .tuple (v.map .int)
def eS (s : Stk) : PyData := .tuple (s.map eV)
def eB (b : List Stk) : PyData := .tuple (b.map eS)
theorem map_inj {α β : Type} {f : α → β} (h : ∀ a b, f a = f b → a = b) : ∀ {xs ys : List α}, xs.map f = ys.map f → xs = ys
  | [], [], _ => rfl
  | [], _ :: _, e => by simp at e
  | _ :: _, [], e => by simp at e
  | x :: xs, y :: ys, e => by
    rw [List.map_cons, List.map_cons] at e
    injection e with e1 e2
    rw [h _ _ e1, map_inj h e2]
theorem eV_inj {a b : Vec} (h : eV a = eV b) : a = b := map_inj (fun _ _ e => by injection e) (PyData.tuple.inj h)
theorem eS_inj {a b : Stk} (h : eS a = eS b) : a = b := map_inj (fun _ _ e => eV_inj e) (PyData.tuple.inj h)
theorem eB_inj {a b : List Stk} (h : eB a = eB b) : a = b := map_inj (fun _ _ e => eS_inj e) (PyData.tuple.inj h)
/-! ### alike, equal -/
theorem alikeAll_map {α : Type} {f : α → PyData} (h : ∀ a b, PySem.W.alike (f a) (f b) = true) : ∀ xs ys : List α, PySem.W.alikeAll (xs.map f) (ys.map f) = true
  | [], ys => by simp [PySem.W.alikeAll]
  | x :: xs, [] => by simp [PySem.W.alikeAll]
  | x :: xs, y :: ys => by
    show PySem.W.alikeAll (f x :: xs.map f) (f y :: ys.map f) = true
    rw [PySem.W.alikeAll, h, alikeAll_map h xs ys]
    rfl
theorem alike_I (a b : Int) : PySem.W.alike (.int a) (.int b) = true := by simp [PySem.W.alike]
theorem alike_V (a b : Vec) : PySem.W.alike (eV a) (eV b) = true := by
  unfold eV
  rw [PySem.W.alike]
  exact alikeAll_map alike_I a b
theorem alike_S (a b : Stk) : PySem.W.alike (eS a) (eS b) = true := by
  unfold eS
  rw [PySem.W.alike]
  exact alikeAll_map alike_V a b
theorem eqvAll_map {α : Type} [DecidableEq α] {f : α → PyData} (h : ∀ a b, PyData.eqv (f a) (f b) = decide (a = b)) : ∀ xs ys : List α, PyData.eqvAll (xs.map f) (ys.map f) = decide (xs = ys)
  | [], [] => by simp [PyData.eqvAll]
  | [], y :: ys => by simp [PyData.eqvAll]
  | x :: xs, [] => by simp [PyData.eqvAll]
  | x :: xs, y :: ys => by
    show PyData.eqvAll (f x :: xs.map f) (f y :: ys.map f) = _
    rw [PyData.eqvAll, h, eqvAll_map h xs ys]
    by_cases h1 : x = y <;> by_cases h2 : xs = ys <;> simp [h1, h2]
theorem eqv_I (a b : Int) : PyData.eqv (.int a) (.int b) = decide (a = b) := by
  simp only [PyData.eqv]
  by_cases h : a = b <;> simp [h]
theorem eqv_V (a b : Vec) : PyData.eqv (eV a) (eV b) = decide (a = b) := by
  unfold eV
  rw [PyData.eqv]
  exact eqvAll_map eqv_I a b
theorem eqv_S (a b : Stk) : PyData.eqv (eS a) (eS b) = decide (a = b) := by
  unfold eS
  rw [PyData.eqv]
  exact eqvAll_map eqv_V a b
theorem eqv_LS (a b : List Stk) : PyData.eqv (.list (a.map eS)) (.list (b.map eS)) = decide (a = b) := by
  rw [PyData.eqv]
  exact eqvAll_map eqv_S a b
theorem eqv_LV (a b : List Vec) : PyData.eqv (.list (a.map eV)) (.list (b.map eV)) = decide (a = b) := by
  rw [PyData.eqv]
  exact eqvAll_map eqv_V a b
/-! ### the order -/
theorem lt_no {x y : PyData} (ha : PySem.W.alike x y = true) (h1 : PySem.W.dataLt x y = false) (h2 : PySem.W.dataLt y x = false) : PyData.eqv x y = true := by
  have e : PySem.W.keyToks x = PySem.W.keyToks y := (PyProof.Rows.listOrd PyProof.Rows.itemOrd).total _ _ h1 h2
  cases hq : PyData.eqv x y with
  | true => rfl
  | false =>
    exfalso
    have h := (PySem.W.toks_eqv x y ha).2 hq [] [.inl 0]
    rw [e, PySem.W.lex_pre] at h
    have h3 : PyProof.Rows.lexLt PyProof.Rows.itemOrd [] [Sum.inl 0] = true := rfl
    have h4 : PyProof.Rows.lexLt PyProof.Rows.itemOrd (PySem.W.keyToks y) (PySem.W.keyToks y) = false := PyProof.Rows.lex_irrefl _
    rw [h3, h4] at h
    exact absurd h (by decide)
theorem lt_self (x : PyData) : PySem.W.dataLt x x = false := PyProof.Rows.lex_irrefl _
abbrev leE {β : Type} (enc : β → PyData) : β → β → Bool := PySem.W.dataLe false enc
theorem leE_def {β : Type} (enc : β → PyData) (a b : β) : leE enc a b = !PySem.W.dataLt (enc b) (enc a) := rfl
theorem leE_total {β : Type} (enc : β → PyData) : PySem.W.TotalLe (leE enc) := PySem.W.sortLe_total _ _ _
structure Anti {β : Type} (enc : β → PyData) : Prop where
  eq : ∀ a b, leE enc a b = true → leE enc b a = true → a = b
theorem anti_of {β : Type} {enc : β → PyData} (h1 : ∀ a b, PySem.W.alike (enc a) (enc b) = true) (h2 : ∀ a b, PyData.eqv (enc a) (enc b) = true → a = b) : Anti enc := ⟨fun a b p q => by
  rw [leE_def, Bool.not_eq_true'] at p q
  exact h2 a b (lt_no (h1 a b) q p)⟩
theorem antiV : Anti eV := anti_of alike_V fun a b h => by rw [eqv_V] at h; exact of_decide_eq_true h
theorem antiS : Anti eS := anti_of alike_S fun a b h => by rw [eqv_S] at h; exact of_decide_eq_true h
/-- in order, of the same items: the same -/
theorem order_one {β : Type} {enc : β → PyData} (an : Anti enc) : ∀ {l m : List β}, l.Perm m → l.Pairwise (fun a b => leE enc a b = true) → m.Pairwise (fun a b => leE enc a b = true) → l = m := by
  intro l m hp hl hm
  exact hp.eq_of_pairwise (fun a b _ _ h1 h2 => an.eq a b h1 h2) hl hm
theorem sort_pw {β : Type} (enc : β → PyData) (l : List β) : (l.mergeSort (leE enc)).Pairwise (fun a b => leE enc a b = true) :=
  List.pairwise_mergeSort (fun a b c => (leE_total enc).trans a b c) (fun a b => by
    rcases (leE_total enc).total a b with h | h
    · rw [h]; rfl
    · rw [h]; simp) l
theorem sort_perm {β : Type} (enc : β → PyData) (an : Anti enc) {l m : List β} (h : l.Perm m) : l.mergeSort (leE enc) = m.mergeSort (leE enc) :=
  order_one an ((List.mergeSort_perm l _).trans (h.trans (List.mergeSort_perm m _).symm)) (sort_pw enc l) (sort_pw enc m)
theorem sort_same {β : Type} (enc : β → PyData) (an : Anti enc) {l : List β} (h : l.Pairwise (fun a b => leE enc a b = true)) : l.mergeSort (leE enc) = l :=
  order_one an (List.mergeSort_perm l _) (sort_pw enc l) h
abbrev sortV (l : List Vec) : Stk := l.mergeSort (leE eV)
abbrev sortS (l : List Stk) : List Stk := l.mergeSort (leE eS)
theorem nodup_dups {β : Type} [BEq β] [LawfulBEq β] : ∀ (n : Nat) (l : List β), l.length ≤ n → l.eraseDups.Nodup
  | _, [], _ => List.nodup_nil
  | 0, _ :: _, h => absurd h (by simp)
  | n + 1, a :: l, h => by
    rw [List.eraseDups_cons]
    rw [List.length_cons] at h
    refine List.nodup_cons.mpr ⟨fun hm => ?_, nodup_dups n _ (Nat.le_trans (List.length_filter_le _ _) (by omega))⟩
    rw [List.mem_eraseDups, List.mem_filter] at hm
    simp at hm
theorem nodup_one {β : Type} [BEq β] [LawfulBEq β] (l : List β) : l.eraseDups.Nodup := nodup_dups _ l (Nat.le_refl _)
/-- in order, each once -/
def setS (l : List Stk) : List Stk := sortS l.eraseDups
theorem nodup_perm {β : Type} {l m : List β} (hl : l.Nodup) (hm : m.Nodup) (h : ∀ b, b ∈ l ↔ b ∈ m) : l.Perm m := (List.perm_ext_iff_of_nodup hl hm).mpr h
end K62
/-! the text: its defs, their names -/
namespace K62
open PySem PySem.Spec PyProof.Rows L2
def topS (i : Nat) : Stmt := PySem.Challenge.pw_sumroads_k62_whole_patterns_put_on_stack.main.body.getD i (.Pass ⟨0, 0, 0, 0⟩)
/-- a def as it stands behind the top -/
structure FnAt (K : PySem.W.Frag) (mg : Str → Option Value) (x : Str) (st : Stmt) (ps : List Str) where
  f : Addr
  fd : FuncData
  F : Fun K x x st f fd
  m : mg x = some (.ref f)
  b : Binds K fd ps []
abbrev s10 : Stmt := topS 10
abbrev N10 : List Str := ["value"]
theorem c10 : FnScope N10 ["value"] (defScope s10) := ⟨rfl, rfl, rfl, by decide +kernel, rfl, by decide +kernel, by decide +kernel⟩
abbrev s11 : Stmt := topS 11
abbrev N11 : List Str := ["value"]
theorem c11 : FnScope N11 ["value"] (defScope s11) := ⟨rfl, rfl, rfl, by decide +kernel, rfl, by decide +kernel, by decide +kernel⟩
abbrev s12 : Stmt := topS 12
abbrev N12 : List Str := ["value"]
theorem c12 : FnScope N12 ["value"] (defScope s12) := ⟨rfl, rfl, rfl, by decide +kernel, rfl, by decide +kernel, by decide +kernel⟩
abbrev s13 : Stmt := topS 13
abbrev N13 : List Str := ["what", "limit", "number"]
theorem c13 : FnScope N13 ["what", "limit", "number"] (defScope s13) := ⟨rfl, rfl, rfl, by decide +kernel, rfl, by decide +kernel, by decide +kernel⟩
abbrev s15 : Stmt := topS 15
abbrev N15 : List Str := ["one", "other", "near", "far"]
theorem c15 : FnScope N15 ["one", "other"] (defScope s15) := ⟨rfl, rfl, rfl, by decide +kernel, rfl, by decide +kernel, by decide +kernel⟩
abbrev s16 : Stmt := topS 16
abbrev N16 : List Str := ["row", "position", "number"]
theorem c16 : FnScope N16 ["row"] (defScope s16) := ⟨rfl, rfl, rfl, by decide +kernel, rfl, by decide +kernel, by decide +kernel⟩
abbrev s17 : Stmt := topS 17
abbrev N17 : List Str := ["row"]
theorem c17 : FnScope N17 ["row"] (defScope s17) := ⟨rfl, rfl, rfl, by decide +kernel, rfl, by decide +kernel, by decide +kernel⟩
abbrev s18 : Stmt := topS 18
abbrev N18 : List Str := ["value", "many", "one"]
theorem c18 : FnScope N18 ["value", "many"] (defScope s18) := ⟨rfl, rfl, rfl, by decide +kernel, rfl, by decide +kernel, by decide +kernel⟩
abbrev s23 : Stmt := topS 23
abbrev N23 : List Str := ["frame"]
theorem c23 : FnScope N23 ["frame"] (defScope s23) := ⟨rfl, rfl, rfl, by decide +kernel, rfl, by decide +kernel, by decide +kernel⟩
abbrev s24 : Stmt := topS 24
abbrev N24 : List Str := ["frame"]
theorem c24 : FnScope N24 ["frame"] (defScope s24) := ⟨rfl, rfl, rfl, by decide +kernel, rfl, by decide +kernel, by decide +kernel⟩
abbrev s25 : Stmt := topS 25
abbrev N25 : List Str := ["frame", "table", "row"]
theorem c25 : FnScope N25 ["frame", "table"] (defScope s25) := ⟨rfl, rfl, rfl, by decide +kernel, rfl, by decide +kernel, by decide +kernel⟩
abbrev s26 : Stmt := topS 26
abbrev N26 : List Str := ["value", "many", "one"]
theorem c26 : FnScope N26 ["value", "many"] (defScope s26) := ⟨rfl, rfl, rfl, by decide +kernel, rfl, by decide +kernel, by decide +kernel⟩
abbrev s27 : Stmt := topS 27
abbrev N27 : List Str := ["value", "rows", "many", "row", "cell"]
theorem c27 : FnScope N27 ["value"] (defScope s27) := ⟨rfl, rfl, rfl, by decide +kernel, rfl, by decide +kernel, by decide +kernel⟩
abbrev s28 : Stmt := topS 28
abbrev N28 : List Str := ["value"]
theorem c28 : FnScope N28 ["value"] (defScope s28) := ⟨rfl, rfl, rfl, by decide +kernel, rfl, by decide +kernel, by decide +kernel⟩
abbrev s29 : Stmt := topS 29
abbrev N29 : List Str := ["frame", "value"]
theorem c29 : FnScope N29 ["frame", "value"] (defScope s29) := ⟨rfl, rfl, rfl, by decide +kernel, rfl, by decide +kernel, by decide +kernel⟩
abbrev s32 : Stmt := topS 32
abbrev N32 : List Str := ["many", "value", "one"]
theorem c32 : FnScope N32 ["many", "value"] (defScope s32) := ⟨rfl, rfl, rfl, by decide +kernel, rfl, by decide +kernel, by decide +kernel⟩
abbrev s33 : Stmt := topS 33
abbrev N33 : List Str := ["frame", "value", "one"]
theorem c33 : FnScope N33 ["frame", "value"] (defScope s33) := ⟨rfl, rfl, rfl, by decide +kernel, rfl, by decide +kernel, by decide +kernel⟩
abbrev s34 : Stmt := topS 34
abbrev N34 : List Str := ["frame", "value"]
theorem c34 : FnScope N34 ["frame", "value"] (defScope s34) := ⟨rfl, rfl, rfl, by decide +kernel, rfl, by decide +kernel, by decide +kernel⟩
abbrev s39 : Stmt := topS 39
abbrev N39 : List Str := ["stack", "cell", "table"]
theorem c39 : FnScope N39 ["stack"] (defScope s39) := ⟨rfl, rfl, rfl, by decide +kernel, rfl, by decide +kernel, by decide +kernel⟩
abbrev s40 : Stmt := topS 40
abbrev N40 : List Str := ["frame", "value", "table"]
theorem c40 : FnScope N40 ["frame", "value"] (defScope s40) := ⟨rfl, rfl, rfl, by decide +kernel, rfl, by decide +kernel, by decide +kernel⟩
abbrev s41 : Stmt := topS 41
abbrev N41 : List Str := ["frame", "value"]
theorem c41 : FnScope N41 ["frame", "value"] (defScope s41) := ⟨rfl, rfl, rfl, by decide +kernel, rfl, by decide +kernel, by decide +kernel⟩
abbrev s44 : Stmt := topS 44
abbrev N44 : List Str := ["frame", "value", "number"]
theorem c44 : FnScope N44 ["frame", "value"] (defScope s44) := ⟨rfl, rfl, rfl, by decide +kernel, rfl, by decide +kernel, by decide +kernel⟩
abbrev s49 : Stmt := topS 49
abbrev N49 : List Str := ["pattern", "change", "number"]
theorem c49 : FnScope N49 ["pattern"] (defScope s49) := ⟨rfl, rfl, rfl, by decide +kernel, rfl, by decide +kernel, by decide +kernel⟩
abbrev s50 : Stmt := topS 50
abbrev N50 : List Str := ["changes", "told"]
theorem c50 : FnScope N50 ["changes"] (defScope s50) := ⟨rfl, rfl, rfl, by decide +kernel, rfl, by decide +kernel, by decide +kernel⟩
abbrev s51 : Stmt := topS 51
abbrev N51 : List Str := ["changes", "cell", "change"]
theorem c51 : FnScope N51 ["changes"] (defScope s51) := ⟨rfl, rfl, rfl, by decide +kernel, rfl, by decide +kernel, by decide +kernel⟩
abbrev s52 : Stmt := topS 52
abbrev N52 : List Str := ["pattern", "ahead", "behind", "change", "number"]
theorem c52 : FnScope N52 ["pattern"] (defScope s52) := ⟨rfl, rfl, rfl, by decide +kernel, rfl, by decide +kernel, by decide +kernel⟩
abbrev s53 : Stmt := topS 53
abbrev N53 : List Str := ["table", "change", "found", "count", "number"]
theorem c53 : FnScope N53 ["table", "change"] (defScope s53) := ⟨rfl, rfl, rfl, by decide +kernel, rfl, by decide +kernel, by decide +kernel⟩
abbrev s54 : Stmt := topS 54
abbrev N54 : List Str := ["changes", "stack", "found", "at", "change", "late", "used", "here", "begin", "layer", "table"]
theorem c54 : FnScope N54 ["changes", "stack"] (defScope s54) := ⟨rfl, rfl, rfl, by decide +kernel, rfl, by decide +kernel, by decide +kernel⟩
abbrev s55 : Stmt := topS 55
abbrev N55 : List Str := ["patterns", "stack", "found", "pattern"]
theorem c55 : FnScope N55 ["patterns", "stack"] (defScope s55) := ⟨rfl, rfl, rfl, by decide +kernel, rfl, by decide +kernel, by decide +kernel⟩
abbrev s56 : Stmt := topS 56
abbrev N56 : List Str := ["patterns", "stack", "other", "changes", "one", "two", "early", "late", "change"]
theorem c56 : FnScope N56 ["patterns", "stack", "other"] (defScope s56) := ⟨rfl, rfl, rfl, by decide +kernel, rfl, by decide +kernel, by decide +kernel⟩
abbrev s57 : Stmt := topS 57
abbrev N57 : List Str := ["patterns", "stack", "found", "waiting", "at", "late"]
theorem c57 : FnScope N57 ["patterns", "stack"] (defScope s57) := ⟨rfl, rfl, rfl, by decide +kernel, rfl, by decide +kernel, by decide +kernel⟩
abbrev s58 : Stmt := topS 58
abbrev N58 : List Str := ["patterns", "stack"]
theorem c58 : FnScope N58 ["patterns", "stack"] (defScope s58) := ⟨rfl, rfl, rfl, by decide +kernel, rfl, by decide +kernel, by decide +kernel⟩
abbrev s59 : Stmt := topS 59
abbrev N59 : List Str := ["patterns", "stack", "other", "met", "found"]
theorem c59 : FnScope N59 ["patterns", "stack", "other"] (defScope s59) := ⟨rfl, rfl, rfl, by decide +kernel, rfl, by decide +kernel, by decide +kernel⟩
abbrev s60 : Stmt := topS 60
abbrev N60 : List Str := ["frame", "value", "change"]
theorem c60 : FnScope N60 ["frame", "value"] (defScope s60) := ⟨rfl, rfl, rfl, by decide +kernel, rfl, by decide +kernel, by decide +kernel⟩
abbrev s61 : Stmt := topS 61
abbrev N61 : List Str := ["frame", "value", "pattern", "one", "other"]
theorem c61 : FnScope N61 ["frame", "value"] (defScope s61) := ⟨rfl, rfl, rfl, by decide +kernel, rfl, by decide +kernel, by decide +kernel⟩
abbrev s62 : Stmt := topS 62
abbrev N62 : List Str := ["frame", "patterns", "value", "one", "other"]
theorem c62 : FnScope N62 ["frame", "patterns", "value"] (defScope s62) := ⟨rfl, rfl, rfl, by decide +kernel, rfl, by decide +kernel, by decide +kernel⟩
abbrev s63 : Stmt := topS 63
abbrev N63 : List Str := ["frame", "value"]
theorem c63 : FnScope N63 ["frame", "value"] (defScope s63) := ⟨rfl, rfl, rfl, by decide +kernel, rfl, by decide +kernel, by decide +kernel⟩
abbrev s64 : Stmt := topS 64
abbrev N64 : List Str := ["frame", "value"]
theorem c64 : FnScope N64 ["frame", "value"] (defScope s64) := ⟨rfl, rfl, rfl, by decide +kernel, rfl, by decide +kernel, by decide +kernel⟩
abbrev s65 : Stmt := topS 65
abbrev N65 : List Str := ["frame", "value"]
theorem c65 : FnScope N65 ["frame", "value"] (defScope s65) := ⟨rfl, rfl, rfl, by decide +kernel, rfl, by decide +kernel, by decide +kernel⟩
abbrev s66 : Stmt := topS 66
abbrev N66 : List Str := ["frame", "value"]
theorem c66 : FnScope N66 ["frame", "value"] (defScope s66) := ⟨rfl, rfl, rfl, by decide +kernel, rfl, by decide +kernel, by decide +kernel⟩
abbrev s67 : Stmt := topS 67
abbrev N67 : List Str := ["frame", "changes", "left", "change"]
theorem c67 : FnScope N67 ["frame", "changes"] (defScope s67) := ⟨rfl, rfl, rfl, by decide +kernel, rfl, by decide +kernel, by decide +kernel⟩
abbrev s68 : Stmt := topS 68
abbrev N68 : List Str := ["frame", "pattern"]
theorem c68 : FnScope N68 ["frame", "pattern"] (defScope s68) := ⟨rfl, rfl, rfl, by decide +kernel, rfl, by decide +kernel, by decide +kernel⟩
abbrev s69 : Stmt := topS 69
abbrev N69 : List Str := ["frame", "patterns", "stack"]
theorem c69 : FnScope N69 ["frame", "patterns", "stack"] (defScope s69) := ⟨rfl, rfl, rfl, by decide +kernel, rfl, by decide +kernel, by decide +kernel⟩
abbrev s70 : Stmt := topS 70
abbrev N70 : List Str := ["frame", "patterns", "stack", "found"]
theorem c70 : FnScope N70 ["frame", "patterns", "stack"] (defScope s70) := ⟨rfl, rfl, rfl, by decide +kernel, rfl, by decide +kernel, by decide +kernel⟩
abbrev s71 : Stmt := topS 71
abbrev N71 : List Str := ["frame", "patterns", "stack"]
theorem c71 : FnScope N71 ["frame", "patterns", "stack"] (defScope s71) := ⟨rfl, rfl, rfl, by decide +kernel, rfl, by decide +kernel, by decide +kernel⟩
abbrev s72 : Stmt := topS 72
abbrev N72 : List Str := ["frame", "patterns", "stack", "other"]
theorem c72 : FnScope N72 ["frame", "patterns", "stack", "other"] (defScope s72) := ⟨rfl, rfl, rfl, by decide +kernel, rfl, by decide +kernel, by decide +kernel⟩
abbrev s73 : Stmt := topS 73
abbrev N73 : List Str := ["frame", "patterns", "value"]
theorem c73 : FnScope N73 ["frame", "patterns", "value"] (defScope s73) := ⟨rfl, rfl, rfl, by decide +kernel, rfl, by decide +kernel, by decide +kernel⟩
abbrev s75 : Stmt := topS 75
abbrev N75 : List Str := ["_law_script", "_law_k", "_law_cell"]
theorem c75 : FnScope N75 ["_law_script", "_law_k"] (defScope s75) := ⟨rfl, rfl, rfl, by decide +kernel, rfl, by decide +kernel, by decide +kernel⟩
abbrev s76 : Stmt := topS 76
abbrev N76 : List Str := ["_law_pot_here", "_law_size", "_law_digit"]
theorem c76 : FnScope N76 ["_law_pot_here", "_law_size"] (defScope s76) := ⟨rfl, rfl, rfl, by decide +kernel, rfl, by decide +kernel, by decide +kernel⟩
abbrev s77 : Stmt := topS 77
abbrev N77 : List Str := ["_law_pot_here", "_law_some"]
theorem c77 : FnScope N77 ["_law_pot_here", "_law_some"] (defScope s77) := ⟨rfl, rfl, rfl, by decide +kernel, rfl, by decide +kernel, by decide +kernel⟩
abbrev s78 : Stmt := topS 78
abbrev N78 : List Str := ["_law_pot_here", "_law_cells", "_law_first", "_law_rows_here", "_law_is_plain", "_law_cell", "_law_second"]
theorem c78 : FnScope N78 ["_law_pot_here"] (defScope s78) := ⟨rfl, rfl, rfl, by decide +kernel, rfl, by decide +kernel, by decide +kernel⟩
abbrev s79 : Stmt := topS 79
abbrev N79 : List Str := ["_law_frame", "_law_row", "_law_one", "_law_near", "_law_far_here"]
theorem c79 : FnScope N79 ["_law_frame", "_law_row"] (defScope s79) := ⟨rfl, rfl, rfl, by decide +kernel, rfl, by decide +kernel, by decide +kernel⟩
abbrev s80 : Stmt := topS 80
abbrev N80 : List Str := ["_law_frame", "_law_row"]
theorem c80 : FnScope N80 ["_law_frame", "_law_row"] (defScope s80) := ⟨rfl, rfl, rfl, by decide +kernel, rfl, by decide +kernel, by decide +kernel⟩
abbrev s81 : Stmt := topS 81
abbrev N81 : List Str := ["_law_one", "_law_other", "_law_near", "_law_far_here"]
theorem c81 : FnScope N81 ["_law_one", "_law_other"] (defScope s81) := ⟨rfl, rfl, rfl, by decide +kernel, rfl, by decide +kernel, by decide +kernel⟩
abbrev s82 : Stmt := topS 82
abbrev N82 : List Str := ["_law_row", "_law_one"]
theorem c82 : FnScope N82 ["_law_row"] (defScope s82) := ⟨rfl, rfl, rfl, by decide +kernel, rfl, by decide +kernel, by decide +kernel⟩
abbrev s83 : Stmt := topS 83
abbrev N83 : List Str := ["_law_pot_here", "_law_frame", "_law_layers", "_law_most", "_law_found", "_law_layer", "_law_cell"]
theorem c83 : FnScope N83 ["_law_pot_here", "_law_frame", "_law_layers", "_law_most"] (defScope s83) := ⟨rfl, rfl, rfl, by decide +kernel, rfl, by decide +kernel, by decide +kernel⟩
abbrev s84 : Stmt := topS 84
abbrev N84 : List Str := ["_law_changes", "_law_one", "_law_row"]
theorem c84 : FnScope N84 ["_law_changes"] (defScope s84) := ⟨rfl, rfl, rfl, by decide +kernel, rfl, by decide +kernel, by decide +kernel⟩
abbrev s85 : Stmt := topS 85
abbrev N85 : List Str := ["_law_stack_here", "_law_changes", "_law_free", "_law_found", "_law_at", "_law_late", "_law_left", "_law_other"]
theorem c85 : FnScope N85 ["_law_stack_here", "_law_changes", "_law_free"] (defScope s85) := ⟨rfl, rfl, rfl, by decide +kernel, rfl, by decide +kernel, by decide +kernel⟩
abbrev s86 : Stmt := topS 86
abbrev N86 : List Str := ["_law_patterns", "_law_stack_here", "_law_found", "_law_pattern_here", "_law_changes", "_law_row"]
theorem c86 : FnScope N86 ["_law_patterns", "_law_stack_here"] (defScope s86) := ⟨rfl, rfl, rfl, by decide +kernel, rfl, by decide +kernel, by decide +kernel⟩
abbrev s87 : Stmt := topS 87
abbrev N87 : List Str := ["_law_patterns", "_law_stack_here", "_law_found", "_law_left", "_law_here", "_law_late"]
theorem c87 : FnScope N87 ["_law_patterns", "_law_stack_here"] (defScope s87) := ⟨rfl, rfl, rfl, by decide +kernel, rfl, by decide +kernel, by decide +kernel⟩
abbrev s88 : Stmt := topS 88
abbrev N88 : List Str := ["_law_pattern_here", "_law_ahead", "_law_row", "_law_one"]
theorem c88 : FnScope N88 ["_law_pattern_here"] (defScope s88) := ⟨rfl, rfl, rfl, by decide +kernel, rfl, by decide +kernel, by decide +kernel⟩
abbrev s89 : Stmt := topS 89
abbrev N89 : List Str := ["_law_many", "_law_most", "_law_found", "_law_turn"]
theorem c89 : FnScope N89 ["_law_many", "_law_most"] (defScope s89) := ⟨rfl, rfl, rfl, by decide +kernel, rfl, by decide +kernel, by decide +kernel⟩
abbrev s90 : Stmt := topS 90
abbrev N90 : List Str := ["_law_rows_here", "_law_most", "_law_found", "_law_row", "_law_one"]
theorem c90 : FnScope N90 ["_law_rows_here", "_law_most"] (defScope s90) := ⟨rfl, rfl, rfl, by decide +kernel, rfl, by decide +kernel, by decide +kernel⟩
abbrev s91 : Stmt := topS 91
abbrev N91 : List Str := ["_law_frame", "_law_row"]
theorem c91 : FnScope N91 ["_law_frame"] (defScope s91) := ⟨rfl, rfl, rfl, by decide +kernel, rfl, by decide +kernel, by decide +kernel⟩
abbrev s92 : Stmt := topS 92
abbrev N92 : List Str := ["_law_pot_here", "_law_some", "_law_one", "_law_other", "_law_last"]
theorem c92 : FnScope N92 ["_law_pot_here", "_law_some"] (defScope s92) := ⟨rfl, rfl, rfl, by decide +kernel, rfl, by decide +kernel, by decide +kernel⟩
abbrev s93 : Stmt := topS 93
abbrev N93 : List Str := ["_law_patterns", "_law_stack_here", "_law_far_here", "_law_left", "_law_here", "_law_late"]
theorem c93 : FnScope N93 ["_law_patterns", "_law_stack_here"] (defScope s93) := ⟨rfl, rfl, rfl, by decide +kernel, rfl, by decide +kernel, by decide +kernel⟩
abbrev s94 : Stmt := topS 94
abbrev N94 : List Str := ["_law_frame", "_law_patterns", "_law_value", "_law_stack_here", "_law_layer", "_law_one", "_law_at"]
theorem c94 : FnScope N94 ["_law_frame", "_law_patterns", "_law_value"] (defScope s94) := ⟨rfl, rfl, rfl, by decide +kernel, rfl, by decide +kernel, by decide +kernel⟩
abbrev s95 : Stmt := topS 95
abbrev N95 : List Str := ["_law_pot_here", "_law_frame", "_law_some", "_law_changes", "_law_due", "_law_mixed", "_law_told", "_law_turned_here", "_law_row"]
theorem c95 : FnScope N95 ["_law_pot_here", "_law_frame", "_law_some"] (defScope s95) := ⟨rfl, rfl, rfl, by decide +kernel, rfl, by decide +kernel, by decide +kernel⟩
abbrev s96 : Stmt := topS 96
abbrev N96 : List Str := ["_law_pot_here", "_law_frame", "_law_patterns", "_law_stack_here", "_law_far_here", "_law_other", "_law_told", "_law_values", "_law_at", "_law_value", "_law_due", "_law_is_so"]
theorem c96 : FnScope N96 ["_law_pot_here", "_law_frame", "_law_patterns", "_law_stack_here"] (defScope s96) := ⟨rfl, rfl, rfl, by decide +kernel, rfl, by decide +kernel, by decide +kernel⟩
abbrev s97 : Stmt := topS 97
abbrev N97 : List Str := ["_law_pot_here", "_law_frame", "_law_some", "_law_book", "_law_turn", "_law_patterns", "_law_stack_here", "_law_shown", "_law_due", "_law_told"]
theorem c97 : FnScope N97 ["_law_pot_here"] (defScope s97) := ⟨rfl, rfl, rfl, by decide +kernel, rfl, by decide +kernel, by decide +kernel⟩
abbrev s98 : Stmt := topS 98
abbrev N98 : List Str := ["_law_script"]
theorem c98 : FnScope N98 ["_law_script"] (defScope s98) := ⟨rfl, rfl, rfl, by decide +kernel, rfl, by decide +kernel, by decide +kernel⟩
/-- the module, as its defs meet it -/
structure Tx (K : PySem.W.Frag) (mg : Str → Option Value) where
  z_abs : mg "abs" = none
  z_all : mg "all" = none
  z_any : mg "any" = none
  z_bool : mg "bool" = none
  z_divmod : mg "divmod" = none
  z_enumerate : mg "enumerate" = none
  z_int : mg "int" = none
  z_isinstance : mg "isinstance" = none
  z_len : mg "len" = none
  z_list : mg "list" = none
  z_max : mg "max" = none
  z_min : mg "min" = none
  z_range : mg "range" = none
  z_repr : mg "repr" = none
  z_set : mg "set" = none
  z_sorted : mg "sorted" = none
  z_str : mg "str" = none
  z_sum : mg "sum" = none
  z_tuple : mg "tuple" = none
  z_zip : mg "zip" = none
  v_MOST_CELLS : ∃ t, mg "MOST_CELLS" = some (.int 16 t)
  v_MOST_FRAME_ROWS : ∃ t, mg "MOST_FRAME_ROWS" = some (.int 16 t)
  v_MOST_ENTRY : ∃ t, mg "MOST_ENTRY" = some (.int 9 t)
  v_MOST_SUM : ∃ t, mg "MOST_SUM" = some (.int 20000 t)
  v_MOST_LAYERS : ∃ t, mg "MOST_LAYERS" = some (.int 8 t)
  v_MOST_AT_CELL : ∃ t, mg "MOST_AT_CELL" = some (.int 20000 t)
  v_MOST_STACKS : ∃ t, mg "MOST_STACKS" = some (.int 2000 t)
  v_MOST_IN_MOVE : ∃ t, mg "MOST_IN_MOVE" = some (.int 99 t)
  v_LEAST_KIND : ∃ t, mg "LEAST_KIND" = some (.int 2 t)
  v_MOST_KIND : ∃ t, mg "MOST_KIND" = some (.int 8 t)
  v_MOST_PATTERNS : ∃ t, mg "MOST_PATTERNS" = some (.int 40 t)
  a10 : FnAt K mg "is_integer" s10 ["value"]
  a11 : FnAt K mg "is_count" s11 ["value"]
  a12 : FnAt K mg "is_list" s12 ["value"]
  a13 : FnAt K mg "want_at_most" s13 ["what", "limit", "number"]
  a15 : FnAt K mg "product_of" s15 ["one", "other"]
  a16 : FnAt K mg "head_of" s16 ["row"]
  a17 : FnAt K mg "is_noughts" s17 ["row"]
  a18 : FnAt K mg "is_integer_row" s18 ["value", "many"]
  a23 : FnAt K mg "rows_of" s23 ["frame"]
  a24 : FnAt K mg "cells_of" s24 ["frame"]
  a25 : FnAt K mg "sums_by" s25 ["frame", "table"]
  a26 : FnAt K mg "is_frame_row" s26 ["value", "many"]
  a27 : FnAt K mg "is_frame" s27 ["value"]
  a28 : FnAt K mg "want_frame" s28 ["value"]
  a29 : FnAt K mg "is_change_of" s29 ["frame", "value"]
  a32 : FnAt K mg "is_counts_of" s32 ["many", "value"]
  a33 : FnAt K mg "are_sums" s33 ["frame", "value"]
  a34 : FnAt K mg "is_table_of" s34 ["frame", "value"]
  a39 : FnAt K mg "counts_over" s39 ["stack"]
  a40 : FnAt K mg "is_stack_value" s40 ["frame", "value"]
  a41 : FnAt K mg "want_stack" s41 ["frame", "value"]
  a44 : FnAt K mg "is_change_in" s44 ["frame", "value"]
  a49 : FnAt K mg "turned_pattern" s49 ["pattern"]
  a50 : FnAt K mg "pattern_by" s50 ["changes"]
  a51 : FnAt K mg "adds_to_nought" s51 ["changes"]
  a52 : FnAt K mg "ends_by" s52 ["pattern"]
  a53 : FnAt K mg "with_change" s53 ["table", "change"]
  a54 : FnAt K mg "put_all" s54 ["changes", "stack"]
  a55 : FnAt K mg "steps_of_stack" s55 ["patterns", "stack"]
  a56 : FnAt K mg "is_step_of" s56 ["patterns", "stack", "other"]
  a57 : FnAt K mg "stacks_from" s57 ["patterns", "stack"]
  a58 : FnAt K mg "closed_of_stack" s58 ["patterns", "stack"]
  a59 : FnAt K mg "road_of_stacks" s59 ["patterns", "stack", "other"]
  a60 : FnAt K mg "is_pattern_value" s60 ["frame", "value"]
  a61 : FnAt K mg "is_pattern_book_value" s61 ["frame", "value"]
  a62 : FnAt K mg "is_road_of_stacks" s62 ["frame", "patterns", "value"]
  a63 : FnAt K mg "want_pattern" s63 ["frame", "value"]
  a64 : FnAt K mg "want_patterns" s64 ["frame", "value"]
  a65 : FnAt K mg "is_pattern" s65 ["frame", "value"]
  a66 : FnAt K mg "is_pattern_book" s66 ["frame", "value"]
  a67 : FnAt K mg "pattern_of" s67 ["frame", "changes"]
  a68 : FnAt K mg "pattern_ends" s68 ["frame", "pattern"]
  a69 : FnAt K mg "want_put" s69 ["frame", "patterns", "stack"]
  a70 : FnAt K mg "stack_steps" s70 ["frame", "patterns", "stack"]
  a71 : FnAt K mg "closed_stacks" s71 ["frame", "patterns", "stack"]
  a72 : FnAt K mg "stack_road" s72 ["frame", "patterns", "stack", "other"]
  a73 : FnAt K mg "is_stack_road" s73 ["frame", "patterns", "value"]
  a75 : FnAt K mg "_law_pot" s75 ["_law_script", "_law_k"]
  a76 : FnAt K mg "_law_draw" s76 ["_law_pot_here", "_law_size"]
  a77 : FnAt K mg "_law_pick" s77 ["_law_pot_here", "_law_some"]
  a78 : FnAt K mg "_law_drawn_frame" s78 ["_law_pot_here"]
  a79 : FnAt K mg "_law_sums" s79 ["_law_frame", "_law_row"]
  a80 : FnAt K mg "_law_is_change" s80 ["_law_frame", "_law_row"]
  a81 : FnAt K mg "_law_added" s81 ["_law_one", "_law_other"]
  a82 : FnAt K mg "_law_turned" s82 ["_law_row"]
  a83 : FnAt K mg "_law_stack" s83 ["_law_pot_here", "_law_frame", "_law_layers", "_law_most"]
  a84 : FnAt K mg "_law_pattern" s84 ["_law_changes"]
  a85 : FnAt K mg "_law_put" s85 ["_law_stack_here", "_law_changes", "_law_free"]
  a86 : FnAt K mg "_law_steps" s86 ["_law_patterns", "_law_stack_here"]
  a87 : FnAt K mg "_law_closed" s87 ["_law_patterns", "_law_stack_here"]
  a88 : FnAt K mg "_law_ends" s88 ["_law_pattern_here"]
  a89 : FnAt K mg "_law_rows" s89 ["_law_many", "_law_most"]
  a90 : FnAt K mg "_law_longer" s90 ["_law_rows_here", "_law_most"]
  a91 : FnAt K mg "_law_small" s91 ["_law_frame"]
  a92 : FnAt K mg "_law_drawn_pattern" s92 ["_law_pot_here", "_law_some"]
  a93 : FnAt K mg "_law_far" s93 ["_law_patterns", "_law_stack_here"]
  a94 : FnAt K mg "_law_is_road" s94 ["_law_frame", "_law_patterns", "_law_value"]
  a95 : FnAt K mg "_law_pattern_right" s95 ["_law_pot_here", "_law_frame", "_law_some"]
  a96 : FnAt K mg "_law_roads_right" s96 ["_law_pot_here", "_law_frame", "_law_patterns", "_law_stack_here"]
  a97 : FnAt K mg "_law_right" s97 ["_law_pot_here"]
  a98 : FnAt K mg "law" s98 ["_law_script"]
/-- what is proved of a def -/
structure Cal (P : Program) (w : World) (K : PySem.W.Frag) (mg : Str → Option Value) (base : Heap) (k : Nat) (x : Str) (ps : List Str) (φ : Ph) where
  f : Addr
  fd : FuncData
  F : FnG P w K mg base k f fd ps (spG ⟨P, w, K⟩ φ)
  m : mg x = some (.ref f)
  kp : PySem.W.keepIn K (.ref f) = true
  b : Binds K fd ps []
section
variable {P : Program} {w : World} {K : PySem.W.Frag} {mg : Str → Option Value} {base : Heap} {k : Nat} {x : Str} {ps : List Str} {φ : Ph}
def FnAt.cal {st : Stmt} (a : FnAt K mg x st ps) (h : ∀ {f : Addr} {fd : FuncData}, Fun K x x st f fd → FnG P w K mg base k f fd ps (spG ⟨P, w, K⟩ φ)) : Cal P w K mg base k x ps φ := ⟨a.f, a.fd, h a.F, a.m, a.F.kp, a.b⟩
end
end K62
/-! helpers of the defs -/
namespace K62
open PySem PySem.Spec PyProof.Rows L2
/-- data in, data out | a new list out -/
abbrev phD {ι : Type} (C : ι → Prop) (a : ι → List Dd) (r : ι → Dd → Prop) : Ph := fun ds Rd Rn => ∃ i, C i ∧ ds = a i ∧ Rd = r i ∧ Rn = Nn
abbrev phN {ι : Type} (C : ι → Prop) (a : ι → List Dd) (r : ι → List PyData → Prop) : Ph := fun ds Rd Rn => ∃ i, C i ∧ ds = a i ∧ Rd = Nd ∧ Rn = r i
theorem bt_int : bootBuiltins "int" = some (.type "int") := by decide +kernel
theorem bt_bool : bootBuiltins "bool" = some (.type "bool") := by decide +kernel
theorem bt_str : bootBuiltins "str" = some (.type "str") := by decide +kernel
theorem bt_tuple : bootBuiltins "tuple" = some (.type "tuple") := by decide +kernel
theorem bt_list : bootBuiltins "list" = some (.type "list") := by decide +kernel
theorem bt_all : bootBuiltins "all" = some (.builtin "all") := by decide +kernel
theorem bt_any : bootBuiltins "any" = some (.builtin "any") := by decide +kernel
theorem bt_sum : bootBuiltins "sum" = some (.builtin "sum") := by decide +kernel
theorem bt_abs : bootBuiltins "abs" = some (.builtin "abs") := by decide +kernel
theorem bt_max : bootBuiltins "max" = some (.builtin "max") := by decide +kernel
theorem bt_min : bootBuiltins "min" = some (.builtin "min") := by decide +kernel
theorem bt_len : bootBuiltins "len" = some (.builtin "len") := by decide +kernel
theorem bt_repr : bootBuiltins "repr" = some (.builtin "repr") := by decide +kernel
theorem bt_sorted : bootBuiltins "sorted" = some (.builtin "sorted") := by decide +kernel
section
variable {X : Cx} {e a b c : Expr} {es : List Expr} {pos p p1 p2 : Pos} {Γ : List Sl} {κ : Pw} {k : Nat} {i j : Int}
theorem shI (n : Int) : SeqAt.shaped (.int n) = true := rfl
theorem pd_eqI (hr : Room k X.A) (ha : PE X a (tD (pwOf X) Γ (IsI i))) (hb : PE X b (tD (pwOf X) Γ (IsI j))) : PE X (.Compare a [.Eq] [b] pos) (tD (pwOf X) Γ (IsB (decide (i = j)))) := pdp_eq (pd_eqD hr (shI _) (shI _) ha hb) (by rw [eqv_I])
theorem ptc_eqI (hr : Room k X.A) (ha : PE X a (tD (pwOf X) Γ (IsI i))) (hb : PE X b (tD (pwOf X) Γ (IsI j))) : PT X (.Compare a [.Eq] [b] pos) (tT (pwOf X) Γ (Is (decide (i = j)))) := pt_eq (ptc_eqD hr (shI _) (shI _) ha hb) (eqv_I _ _)
theorem ptc_neI (hr : Room k X.A) (ha : PE X a (tD (pwOf X) Γ (IsI i))) (hb : PE X b (tD (pwOf X) Γ (IsI j))) : PT X (.Compare a [.NotEq] [b] pos) (tT (pwOf X) Γ (Is (!decide (i = j)))) := pt_eq (ptc_neD hr (shI _) (shI _) ha hb) (by rw [eqv_I])
theorem pd_isNoneS {j p2} {B : Bool} (ha : PE X a (tD κ Γ (fun d => ∃ x, d = .p x ∧ isNone x = B))) : PE X (.Compare a [.Is] [.Constant .none j p2] pos) (tD κ Γ (IsB B)) :=
  pd_cmp op_isN (nomark _) (fun x y ⟨d, ed, eb⟩ hy => by
    subst ed
    cases hy
    intro B' H v w e r1 r2 Q q
    cases rep_none r2
    refine ⟨rfl, ?_⟩
    rw [dp_isNone r1, eb]
    exact q _ _ B' H (Ext.refl e) rfl (Dp.bl _)) ha pd_non
end
/-! short forms -/
section
variable {X : Cx} {e a b c tg iter : Expr} {es : List Expr} {pos p p1 p2 q1 : Pos} {Γ : List Sl} {κ : Pw} {k : Nat} {i j : Int} {ι : Type} {as : List ι} {P : Program} {w : World} {K : PySem.W.Frag} {mg : Str → Option Value} {base : Heap} {x y z : Str} {ps : List Str} {φ : Ph} {ds : List Dd} {Rd : Dd → Prop} {Rn : List PyData → Prop} {xs : List PyData}
theorem pd_c (c : Cal P w K mg base k x ps φ) (hφ : φ ds Rd Nn) (hG : X.A.guards = some []) (hr : Room k X.A) (ha : PA X (e :: es) (tA (pwOf X) Γ (Is ds))) (h1 : X.prog = P := by rfl) (h2 : X.w = w := by rfl) (h3 : X.K = K := by rfl) (h4 : X.mg = mg := by rfl) (h5 : X.base = base := by rfl) (hg : Gl X x := by rfl) (hdb : (x == ("__debug__" : Str)) = false := by decide)
    (he : starEach (e :: es) X.env = (false, eval e X.env) :: starEach es X.env := by rfl) (hpl : (backTo pos (starEach es X.env)).any (·.1) = false := by rfl) : PE X (.Call (.Name x p) (e :: es) [] pos) (tD (pwOf X) Γ Rd) := by
  subst h1 h2 h3 h4 h5
  exact pd_call ⟨c.f, c.fd, c.F, c.m, c.kp, c.b⟩ hφ hG hr hg ha hdb he hpl
theorem pd_cS {T : List Dd → Prop} (c : Cal P w K mg base k x ps φ) (hφ : ∀ ds, T ds → φ ds Rd Nn) (hG : X.A.guards = some []) (hr : Room k X.A) (ha : PA X (e :: es) (tA (pwOf X) Γ T)) (h1 : X.prog = P := by rfl) (h2 : X.w = w := by rfl) (h3 : X.K = K := by rfl) (h4 : X.mg = mg := by rfl) (h5 : X.base = base := by rfl) (hg : Gl X x := by rfl) (hdb : (x == ("__debug__" : Str)) = false := by decide)
    (he : starEach (e :: es) X.env = (false, eval e X.env) :: starEach es X.env := by rfl) (hpl : (backTo pos (starEach es X.env)).any (·.1) = false := by rfl) : PE X (.Call (.Name x p) (e :: es) [] pos) (tD (pwOf X) Γ Rd) := by
  subst h1 h2 h3 h4 h5
  exact pd_callS ⟨c.f, c.fd, c.F, c.m, c.kp, c.b⟩ hφ hG hr hg ha hdb he hpl
theorem pn_c (c : Cal P w K mg base k x ps φ) (hφ : φ ds Nd Rn) (hG : X.A.guards = some []) (hr : Room k X.A) (ha : PA X (e :: es) (tA (pwOf X) Γ (Is ds))) (h1 : X.prog = P := by rfl) (h2 : X.w = w := by rfl) (h3 : X.K = K := by rfl) (h4 : X.mg = mg := by rfl) (h5 : X.base = base := by rfl) (hg : Gl X x := by rfl) (hdb : (x == ("__debug__" : Str)) = false := by decide)
    (he : starEach (e :: es) X.env = (false, eval e X.env) :: starEach es X.env := by rfl) (hpl : (backTo pos (starEach es X.env)).any (·.1) = false := by rfl) : PE X (.Call (.Name x p) (e :: es) [] pos) (tN (pwOf X) Γ Rn) := by
  subst h1 h2 h3 h4 h5
  exact pn_call ⟨c.f, c.fd, c.F, c.m, c.kp, c.b⟩ hφ hG hr hg ha hdb he hpl
abbrev BlkAll (X : Cx) (scope : Scope) (C : Cx → Prop) : Prop := ∀ (s : Shared) (H : Hp) (D : Addr) (cl : List (Str × Addr)) (fp : List Addr), C (X.blk s H scope (compEnvC scope cl D X.env) fp)
/-- [elt for y in ..] -/
theorem pn_c1 {up : ι → List Sl → List Sl} {f : ι → PyData} {elt : Expr} {scope : Scope} (j : Nat) (hN : X.N.Nodup) (src : Src X (.Name y p1) iter Γ (gName j) [j] as up) (he : ∀ a ∈ as, BlkAll X scope fun Y => PE Y elt (tD (pwOf X) (up a (wipeG Γ [j])) (IsP (f a)))) (hc : X.calm = true := by rfl) (ok : BlkOk X.N X.env.scope scope [(y, j)] := by exact blkOk_by rfl) (hj : X.N[j]? = some y := by rfl)
    (hx : BlkAll X scope fun Y => Loc Y.env.scope y := by intro _ _ _ _ _; first | exact Or.inl rfl | exact Or.inr rfl) (hf : BlkAll X scope fun Y => Y.fn y = true ∨ Y.env.scope.names.lookup y = some .local := by intro _ _ _ _ _; first | exact .inl rfl | exact .inr rfl) (hs : ∀ x, foldedSetIterable iter X.env x = pure x := by intro _; rfl) :
    PE X (.ListComp elt [⟨.Name y p1, iter, [], 0⟩] scope pos) (tN (pwOf X) Γ (Is (as.map f))) :=
  pn_lc (own := [(y, j)]) hc hN src ok (by simp) (fun s H C cl fp => pg_name (i := j) hN hj (hx s H C cl fp) (hf s H C cl fp)) he hs
/-- [elt for y in .. if tst] -/
theorem pn_c1T {up : ι → List Sl → List Sl} {f : ι → PyData} {t : ι → Bool} {elt tst : Expr} {scope : Scope} (j : Nat) (hN : X.N.Nodup) (src : Src X (.Name y p1) iter Γ (gName j) [j] as up) (ht : ∀ a ∈ as, BlkAll X scope fun Y => PT Y tst (tT (pwOf X) (up a (wipeG Γ [j])) (Is (t a)))) (he : ∀ a ∈ as, t a = true → BlkAll X scope fun Y => PE Y elt (tD (pwOf X) (up a (wipeG Γ [j])) (IsP (f a)))) (hc : X.calm = true := by rfl) (ok : BlkOk X.N X.env.scope scope [(y, j)] := by exact blkOk_by rfl) (hj : X.N[j]? = some y := by rfl)
    (hx : BlkAll X scope fun Y => Loc Y.env.scope y := by intro _ _ _ _ _; first | exact Or.inl rfl | exact Or.inr rfl) (hf : BlkAll X scope fun Y => Y.fn y = true ∨ Y.env.scope.names.lookup y = some .local := by intro _ _ _ _ _; first | exact .inl rfl | exact .inr rfl) (hs : ∀ x, foldedSetIterable iter X.env x = pure x := by intro _; rfl) :
    PE X (.ListComp elt [⟨.Name y p1, iter, [tst], 0⟩] scope pos) (tN (pwOf X) Γ (Is ((as.filter t).map f))) :=
  pn_lcT (own := [(y, j)]) hc hN src ok (by simp) (fun s H C cl fp => pg_name (i := j) hN hj (hx s H C cl fp) (hf s H C cl fp)) ht he hs
/-- [elt for y, z in ..] -/
theorem pn_c2 {up : ι → List Sl → List Sl} {f : ι → PyData} {elt : Expr} {scope : Scope} {tk} (j l : Nat) (hN : X.N.Nodup) (src : Src X (.Tuple [.Name y p1, .Name z p2] tk q1) iter Γ (gPair X.K j l) [j, l] as up) (he : ∀ a ∈ as, BlkAll X scope fun Y => PE Y elt (tD (pwOf X) (up a (wipeG Γ [j, l])) (IsP (f a)))) (hc : X.calm = true := by rfl) (ok : BlkOk X.N X.env.scope scope [(y, j), (z, l)] := by exact blkOk_by rfl) (hj : X.N[j]? = some y := by rfl) (hl : X.N[l]? = some z := by rfl)
    (hx : BlkAll X scope fun Y => Loc Y.env.scope y := by intro _ _ _ _ _; first | exact Or.inl rfl | exact Or.inr rfl) (hf : BlkAll X scope fun Y => Y.fn y = true ∨ Y.env.scope.names.lookup y = some .local := by intro _ _ _ _ _; first | exact .inl rfl | exact .inr rfl)
    (hx2 : BlkAll X scope fun Y => Loc Y.env.scope z := by intro _ _ _ _ _; first | exact Or.inl rfl | exact Or.inr rfl) (hf2 : BlkAll X scope fun Y => Y.fn z = true ∨ Y.env.scope.names.lookup z = some .local := by intro _ _ _ _ _; first | exact .inl rfl | exact .inr rfl)
    (hs : ∀ x, foldedSetIterable iter X.env x = pure x := by intro _; rfl) :
    PE X (.ListComp elt [⟨.Tuple [.Name y p1, .Name z p2] tk q1, iter, [], 0⟩] scope pos) (tN (pwOf X) Γ (Is (as.map f))) :=
  pn_lc (own := [(y, j), (z, l)]) hc hN src ok (by simp) (fun s H C cl fp => pg_tup hc (pgs_cons (pg_name (i := j) hN hj (hx s H C cl fp) (hf s H C cl fp)) (pgs_cons (pg_name (i := l) hN hl (hx2 s H C cl fp) (hf2 s H C cl fp)) pgs_nil))) he hs
theorem pd_allN {f : ι → Bool} (hm : X.mg "all" = none) (ha : PE X e (tN (pwOf X) Γ (Is (as.map fun a => PyData.bool (f a))))) (hc : X.calm = true := by rfl) (hg : Gl X "all" := by rfl) (hs : starEach [e] X.env = (false, eval e X.env) :: starEach [] X.env := by rfl) : PE X (.Call (.Name "all" p) [e] [] pos) (tD (pwOf X) Γ (IsB (as.all f))) :=
  pdp_eq (pd_BL (cr_allL hc (ns := as.map f)) hg hm bt_all (pl_eq (pn_l ha) (by rw [List.map_map]; rfl)) (by decide) (by decide) hs) (by rw [List.all_map]; rfl)
theorem pd_anyN {f : ι → Bool} (hm : X.mg "any" = none) (ha : PE X e (tN (pwOf X) Γ (Is (as.map fun a => PyData.bool (f a))))) (hc : X.calm = true := by rfl) (hg : Gl X "any" := by rfl) (hs : starEach [e] X.env = (false, eval e X.env) :: starEach [] X.env := by rfl) : PE X (.Call (.Name "any" p) [e] [] pos) (tD (pwOf X) Γ (IsB (as.any f))) :=
  pdp_eq (pd_BL (cr_anyB hc (ns := as.map f)) hg hm bt_any (pl_eq (pn_l ha) (by rw [List.map_map]; rfl)) (by decide) (by decide) hs) (by rw [List.any_map]; rfl)
theorem pd_anyNI {f : ι → Int} (hm : X.mg "any" = none) (ha : PE X e (tN (pwOf X) Γ (Is (as.map fun a => PyData.int (f a))))) (hc : X.calm = true := by rfl) (hg : Gl X "any" := by rfl) (hs : starEach [e] X.env = (false, eval e X.env) :: starEach [] X.env := by rfl) : PE X (.Call (.Name "any" p) [e] [] pos) (tD (pwOf X) Γ (IsB (as.any fun a => f a != 0))) :=
  pdp_eq (pd_BL (cr_anyL hc (ns := as.map f)) hg hm bt_any (pl_eq (pn_l ha) (by rw [List.map_map]; rfl)) (by decide) (by decide) hs) (by rw [List.any_map]; rfl)
theorem pd_anyV {v : Vec} (hm : X.mg "any" = none) (ha : PE X e (tD (pwOf X) Γ (IsP (eV v)))) (hc : X.calm = true := by rfl) (hg : Gl X "any" := by rfl) (hs : starEach [e] X.env = (false, eval e X.env) :: starEach [] X.env := by rfl) : PE X (.Call (.Name "any" p) [e] [] pos) (tD (pwOf X) Γ (IsB (v.any (· != 0)))) :=
  pd_B (cr_anyT hc) hg hm bt_any (ps_cons ha ps_nil hs) (by decide) (by decide) hs rfl
theorem pd_sumN {f : ι → Int} (hm : X.mg "sum" = none) (ha : PE X e (tN (pwOf X) Γ (Is (as.map fun a => PyData.int (f a))))) (hc : X.calm = true := by rfl) (hg : Gl X "sum" := by rfl) (hs : starEach [e] X.env = (false, eval e X.env) :: starEach [] X.env := by rfl) : PE X (.Call (.Name "sum" p) [e] [] pos) (tD (pwOf X) Γ (IsI (as.map f).sum)) :=
  pd_BL (cr_sumL hc (ns := as.map f)) hg hm bt_sum (pl_eq (pn_l ha) (by rw [List.map_map]; rfl)) (by decide) (by decide) hs
theorem pd_tupL (hm : X.mg "tuple" = none) (ha : PE X e (tL (pwOf X) Γ (Is xs))) (hg : Gl X "tuple" := by rfl) (hs : starEach [e] X.env = (false, eval e X.env) :: starEach [] X.env := by rfl) : PE X (.Call (.Name "tuple" p) [e] [] pos) (tD (pwOf X) Γ (IsP (.tuple xs))) :=
  pd_imp (pd_YL (cr_tupL (T0 := Is xs)) hg hm bt_tuple ha (by decide) (by decide) hs) fun d ⟨ys, h1, h2⟩ => by cases h1; exact h2
theorem pd_lenT (hm : X.mg "len" = none) (ha : PE X e (tD (pwOf X) Γ (IsP (.tuple xs)))) (hg : Gl X "len" := by rfl) (hs : starEach [e] X.env = (false, eval e X.env) :: starEach [] X.env := by rfl) : PE X (.Call (.Name "len" p) [e] [] pos) (tD (pwOf X) Γ (IsI xs.length)) :=
  pd_B cr_lenT hg hm bt_len (ps_cons ha ps_nil hs) (by decide) (by decide) hs rfl
theorem pd_lenL (hm : X.mg "len" = none) (ha : PE X e (tL (pwOf X) Γ (Is xs))) (hg : Gl X "len" := by rfl) (hs : starEach [e] X.env = (false, eval e X.env) :: starEach [] X.env := by rfl) : PE X (.Call (.Name "len" p) [e] [] pos) (tD (pwOf X) Γ (IsI xs.length)) :=
  pd_BL cr_lenL hg hm bt_len ha (by decide) (by decide) hs
end
/-! kinds -/
abbrev isInt (d : PyData) : Bool := d.isInt && !d.isBool
def itemsD : PyData → List PyData
  | .tuple ds => ds
  | _ => []
theorem isInt_int {d : PyData} (h : isInt d = true) : ∃ n, d = .int n := by
  cases d <;> simp [isInt, PyData.isInt, PyData.isBool] at h
  exact ⟨_, rfl⟩
theorem isTuple_tup {d : PyData} (h : d.isTuple = true) : ∃ ds, d = .tuple ds := by
  cases d <;> simp [PyData.isTuple] at h
  exact ⟨_, rfl⟩
def intOf : PyData → Int
  | .int n => n
  | _ => 0
abbrev isCount (d : PyData) : Bool := isInt d && decide (0 ≤ intOf d)
def dot (a b : Vec) : Int := ((a.zip b).map fun p => p.1 * p.2).sum
def zeroV (v : Vec) : Bool := v.all (· == 0)
abbrev intRow (n : Nat) (d : PyData) : Bool := d.isTuple && (decide (((itemsD d).length : Int) = n) && (itemsD d).all isInt)
end K62
/-! basics, rows -/
namespace K62
open PySem PySem.Spec PyProof.Rows L2
section
variable {P : Program} {w : World} {K : PySem.W.Frag} {mg : Str → Option Value} {base : Heap}
abbrev φ10 : Ph := phD (fun _ : PyData => True) (fun d => [.p d]) (fun d => IsB (isInt d))
def ok10 (T : Tx K mg) : Cal P w K mg base 1 "is_integer" ["value"] φ10 :=
  T.a10.cal fun F => fnG F c10 (fun ds Rd Rn h => by obtain ⟨d, _, rfl, _⟩ := h; rfl) fun cdv A outer s H hG hr ds Rd Rn h => by
    obtain ⟨d, _, rfl, rfl, rfl⟩ := h
    exact ss_ret (pd_and (pd_isi (pd_var 0) (kit_data d).1 rfl T.z_isinstance rfl T.z_int bt_int) fun _ => pd_one (pd_not (pd_isi (pd_var 0) (kit_data d).2.1 rfl T.z_isinstance rfl T.z_bool bt_bool))) fun d h => h
abbrev φ11 : Ph := phD (fun _ : PyData => True) (fun d => [.p d]) (fun d => IsB (isCount d))
def ok11 (T : Tx K mg) : Cal P w K mg base 2 "is_count" ["value"] φ11 :=
  let c10 := ok10 (P := P) (w := w) (base := base) T
  T.a11.cal fun F => fnG F c11 (fun ds Rd Rn h => by obtain ⟨d, _, rfl, _⟩ := h; rfl) fun cdv A outer s H hG hr ds Rd Rn h => by
    obtain ⟨d, _, rfl, rfl, rfl⟩ := h
    refine ss_ret (pd_and (pd_c c10 ⟨d, trivial, rfl, rfl, rfl⟩ hG hr (ps_cons (pd_var 0) ps_nil)) fun h1 => ?_) fun d h => h
    obtain ⟨n, rfl⟩ := isInt_int h1
    exact pd_one (pd_ge (pd_var 0) pd_int)
abbrev φ12 : Ph := phD (fun _ : PyData => True) (fun d => [.p d]) (fun d => IsB (d.isList || d.isTuple))
def ok12 (T : Tx K mg) : Cal P w K mg base 1 "is_list" ["value"] φ12 :=
  T.a12.cal fun F => fnG F c12 (fun ds Rd Rn h => by obtain ⟨d, _, rfl, _⟩ := h; rfl) fun cdv A outer s H hG hr ds Rd Rn h => by
    obtain ⟨d, _, rfl, rfl, rfl⟩ := h
    exact ss_ret (pd_isi2 (pd_var 0) rfl T.z_isinstance rfl T.z_list rfl T.z_tuple) fun d h => h
abbrev φ13 : Ph := phD (fun i : Str × Int × Int => i.2.2 ≤ i.2.1) (fun i => [.p (.str i.1), .p (.int i.2.1), .p (.int i.2.2)]) (fun _ => IsP .none)
def ok13 (T : Tx K mg) : Cal P w K mg base 1 "want_at_most" ["what", "limit", "number"] φ13 :=
  T.a13.cal fun F => fnG F c13 (fun ds Rd Rn h => by obtain ⟨d, _, rfl, _⟩ := h; rfl) fun cdv A outer s H hG hr ds Rd Rn h => by
    obtain ⟨⟨x, l, n⟩, hc, rfl, rfl, rfl⟩ := h
    have hc : n ≤ l := hc
    refine ss_ifr (ptc_gt (pd_var 2) (pd_var 1)) (fun z => ?_) fun _ => ss_nil rfl
    exact absurd (of_decide_eq_true z) (by omega)
/-! ### rows -/
abbrev bdV (v : Vec) : Prop := ∀ x ∈ v, -(2 ^ 64) < x ∧ x < 2 ^ 64
abbrev φ15 : Ph := phD (fun i : Vec × Vec => bdV i.1) (fun i => [.p (eV i.1), .p (eV i.2)]) (fun i => IsI (dot i.1 i.2))
def ok15 (T : Tx K mg) : Cal P w K mg base 1 "product_of" ["one", "other"] φ15 :=
  T.a15.cal fun F => fnG F c15 (fun ds Rd Rn h => by obtain ⟨d, _, rfl, _⟩ := h; rfl) fun cdv A outer s H hG hr ds Rd Rn h => by
    obtain ⟨⟨u, v⟩, hc, rfl, rfl, rfl⟩ := h
    have hc : bdV u := hc
    exact ss_ret (pd_sumN T.z_sum (pn_c2 2 3 c15.nd (src_zip rfl T.z_zip (pd_var 0) (pd_var 1)) fun p hp _ _ _ _ _ => pd_mul (.inl (hc _ (List.of_mem_zip hp).1)) (pd_var 2) (pd_var 3))) fun d h => h
abbrev φ16 : Ph := phD (fun _ : Vec => True) (fun v => [.p (eV v)]) (fun v d => ∃ x, d = .p x ∧ isNone x = zeroV v)
def ok16 (T : Tx K mg) : Cal P w K mg base 1 "head_of" ["row"] φ16 :=
  T.a16.cal fun F => fnG F c16 (fun ds Rd Rn h => by obtain ⟨d, _, rfl, _⟩ := h; rfl) fun cdv A outer s H hG hr ds Rd Rn h => by
    obtain ⟨v, _, rfl, rfl, rfl⟩ := h
    refine ss_for (I := fun i Γ => (v.take i).all (· == 0) = true ∧ ∃ a b, Γ = [.d (.p (eV v)), a, b]) rfl PassesOwn.never (src_enumT (j := 1) (k := 2) (as := v) (enc := .int) rfl T.z_enumerate (pd_var 0)) (pg_tup rfl (pgs_cons (pg_name (i := 1) c16.nd rfl (.inl rfl)) (pgs_cons (pg_name (i := 2) c16.nd rfl (.inl rfl)) pgs_nil))) ⟨rfl, _, _, rfl⟩ (fun i p Γ' hp hI => ?_) (fun Γ' hI => ?_)
    · obtain ⟨hz, a, b, rfl⟩ := hI
      obtain ⟨e1, e2⟩ := List.getElem?_zip_eq_some.mp hp
      refine ss_ifr (ptc_neI hr (pd_var 2) pd_int) (fun z => ?_) (fun z => ss_nil ?_)
      · refine ss_ret (pd_var 1) fun d hd => ?_
        cases hd
        refine ⟨_, rfl, ?_⟩
        have hn : p.2 ≠ 0 := by simpa using z
        have hm : p.2 ∈ v := List.mem_of_getElem? e2
        show false = zeroV v
        cases hv : zeroV v with
        | false => rfl
        | true => exact absurd (by simpa using List.all_eq_true.mp hv _ hm) hn
      · have hn : p.2 = 0 := by simpa using z
        refine ⟨?_, _, _, rfl⟩
        rw [List.take_add_one, e2, List.all_append, hz]
        simp [hn]
    · obtain ⟨hz, a, b, rfl⟩ := hI
      refine ss_ret pd_non fun d hd => ?_
      cases hd
      refine ⟨_, rfl, ?_⟩
      rw [List.length_zip, List.length_range, Nat.min_self, List.take_length] at hz
      exact hz.symm
abbrev φ17 : Ph := phD (fun _ : Vec => True) (fun v => [.p (eV v)]) (fun v => IsB (zeroV v))
def ok17 (T : Tx K mg) : Cal P w K mg base 2 "is_noughts" ["row"] φ17 :=
  let q16 := ok16 (P := P) (w := w) (base := base) T
  T.a17.cal fun F => fnG F c17 (fun ds Rd Rn h => by obtain ⟨d, _, rfl, _⟩ := h; rfl) fun cdv A outer s H hG hr ds Rd Rn h => by
    obtain ⟨v, _, rfl, rfl, rfl⟩ := h
    exact ss_ret (pd_isNoneS (pd_c q16 ⟨v, trivial, rfl, rfl, rfl⟩ hG hr (ps_cons (pd_var 0) ps_nil))) fun d h => h
abbrev φ18 : Ph := phD (fun _ : PyData × Nat => True) (fun i => [.p i.1, .p (.int i.2)]) (fun i => IsB (intRow i.2 i.1))
def ok18 (T : Tx K mg) : Cal P w K mg base 2 "is_integer_row" ["value", "many"] φ18 :=
  let q10 := ok10 (P := P) (w := w) (base := base) T
  T.a18.cal fun F => fnG F c18 (fun ds Rd Rn h => by obtain ⟨d, _, rfl, _⟩ := h; rfl) fun cdv A outer s H hG hr ds Rd Rn h => by
    obtain ⟨⟨d, n⟩, _, rfl, rfl, rfl⟩ := h
    refine ss_ret (pd_and (pd_isi (pd_var 0) (kit_data d).2.2.2.1 rfl T.z_isinstance rfl T.z_tuple bt_tuple) fun h1 => ?_) fun d h => h
    obtain ⟨xs, rfl⟩ := isTuple_tup h1
    exact pd_and (pd_eqI hr (pd_lenT T.z_len (pd_var 0)) (pd_var 1)) fun h2 => pd_one (pd_allN T.z_all (pn_c1 2 c18.nd (src_tup (as := xs) (enc := id) (pdp_eq (pd_var 0) (by rw [List.map_id]))) fun x hx _ _ _ _ _ => pd_c q10 ⟨x, trivial, rfl, rfl, rfl⟩ hG (hr.mono (by decide)) (ps_cons (pd_var 2) ps_nil)))
end
end K62
/-! kernels, lots, layered, moves -/
namespace K62
open PySem PySem.Spec PyProof.Rows L2
abbrev Frm := List Vec
def eF (F : Frm) : PyData := .tuple [.str "frame", .tuple (F.map eV)]
def cellsN (F : Frm) : Nat := (F.headD []).length
def sumsV (F : Frm) (t : Vec) : Vec := F.map fun r => dot r t
structure GF (F : Frm) : Prop where
  len : 1 ≤ F.length ∧ F.length ≤ 2
  cells : 2 ≤ cellsN F ∧ cellsN F ≤ 3
  row : ∀ r ∈ F, r.length = cellsN F
  ent : ∀ r ∈ F, ∀ x ∈ r, 0 ≤ x ∧ x ≤ 2
  pos : ∀ x ∈ F.headD [], 1 ≤ x ∧ x ≤ 2
theorem GF.bd {F : Frm} (g : GF F) : ∀ r ∈ F, bdV r := fun r hr x hx => by
  have := g.ent r hr x hx
  omega
theorem GF.cons {F : Frm} (g : GF F) : ∃ r R, F = r :: R := by
  cases F with
  | nil => exact absurd g.len.1 (by simp)
  | cons r R => exact ⟨r, R, rfl⟩
def vecOf (d : PyData) : Vec := (itemsD d).map intOf
def stkOf (d : PyData) : Stk := (itemsD d).map vecOf
theorem vecOf_eV (v : Vec) : vecOf (eV v) = v := by
  show (v.map PyData.int).map intOf = v
  rw [List.map_map]
  exact List.map_id' v
theorem stkOf_eS (s : Stk) : stkOf (eS s) = s := by
  show (s.map eV).map vecOf = s
  rw [List.map_map]
  have : (vecOf ∘ eV) = id := funext vecOf_eV
  rw [this, List.map_id]
theorem ints_all {ds : List PyData} (h : ds.all isInt = true) : ds = (ds.map intOf).map .int := by
  induction ds with
  | nil => rfl
  | cons d ds ih =>
    rw [List.all_cons, Bool.and_eq_true] at h
    obtain ⟨n, rfl⟩ := isInt_int h.1
    rw [List.map_cons, List.map_cons, ← ih h.2]
    rfl
theorem intRow_eV {n : Nat} {d : PyData} (h : intRow n d = true) : d = eV (vecOf d) ∧ (vecOf d).length = n := by
  rw [Bool.and_eq_true, Bool.and_eq_true] at h
  obtain ⟨ds, rfl⟩ := isTuple_tup h.1
  have h2 := of_decide_eq_true h.2.1
  refine ⟨?_, ?_⟩
  · show PyData.tuple ds = .tuple ((ds.map intOf).map .int)
    have e : ds = (ds.map intOf).map .int := ints_all h.2.2
    rw [← e]
  · show (ds.map intOf).length = n
    rw [List.length_map]
    exact Int.ofNat.inj h2
theorem intRow_of {n : Nat} {v : Vec} (h : v.length = n) : intRow n (eV v) = true := by
  show (true && (decide (((v.map PyData.int).length : Int) = n) && (v.map PyData.int).all isInt)) = true
  rw [List.length_map, h, List.all_map]
  simp [isInt, PyData.isInt, PyData.isBool]
abbrev countsOf (n : Nat) (d : PyData) : Bool := d.isTuple && (decide (((itemsD d).length : Int) = n) && (itemsD d).all isCount)
theorem countsOf_row {n : Nat} {d : PyData} (h : countsOf n d = true) : intRow n d = true ∧ ∀ x ∈ vecOf d, 0 ≤ x := by
  rw [Bool.and_eq_true, Bool.and_eq_true] at h
  refine ⟨?_, ?_⟩
  · rw [Bool.and_eq_true, Bool.and_eq_true]
    refine ⟨h.1, h.2.1, List.all_eq_true.mpr fun d hd => ?_⟩
    have := List.all_eq_true.mp h.2.2 d hd
    rw [Bool.and_eq_true] at this
    exact this.1
  · intro x hx
    obtain ⟨d', hd, rfl⟩ := List.mem_map.mp hx
    have := List.all_eq_true.mp h.2.2 d' hd
    rw [Bool.and_eq_true] at this
    exact of_decide_eq_true this.2
theorem countsOf_of {n : Nat} {v : Vec} (h : v.length = n) (h0 : ∀ x ∈ v, 0 ≤ x) : countsOf n (eV v) = true := by
  show (true && (decide (((v.map PyData.int).length : Int) = n) && (v.map PyData.int).all isCount)) = true
  rw [List.length_map, h, List.all_map]
  simp [isInt, PyData.isInt, PyData.isBool, intOf]
  exact fun x hx => decide_eq_true (h0 x hx)
abbrev changeOf (F : Frm) (d : PyData) : Bool := intRow (cellsN F) d && zeroV (sumsV F (vecOf d))
abbrev areSums (F : Frm) (v : Vec) : Bool := countsOf F.length (eV v) && v.all fun x => decide (x ≤ 20000)
abbrev tableOf (F : Frm) (d : PyData) : Bool := countsOf (cellsN F) d && areSums F (sumsV F (vecOf d))
def countsOver (s : Stk) : Vec := (List.range (s.headD []).length).map fun c => (s.map fun t => t.getD c 0).sum
def maxV : Vec → Int
  | [] => 0
  | n :: ns => ns.foldl max n
abbrev stackVal (F : Frm) (d : PyData) : Bool := d.isTuple && ((decide (1 ≤ ((itemsD d).length : Int)) && decide (((itemsD d).length : Int) ≤ 8)) && ((itemsD d).all (tableOf F) && decide (maxV (countsOver (stkOf d)) ≤ 20000)))
abbrev changeIn (F : Frm) (d : PyData) : Bool := changeOf F d && (vecOf d).all fun x => decide ((x.natAbs : Int) ≤ 99)
theorem at0 {α : Type} {x : α} {xs : List α} : atI (x :: xs) 0 = some x := atI_nat (j := 0) rfl
theorem at1 {α : Type} {x y : α} {xs : List α} : atI (x :: y :: xs) 1 = some y := atI_nat (j := 1) rfl
theorem sh_frame : SeqAt.shaped (.str "frame") = true := by decide +kernel
theorem atN {α : Type} {xs : List α} {j : Nat} {d : α} (h : xs[j]? = some d) : atI xs (j : Int) = some d := atI_nat h
section
variable {P : Program} {w : World} {K : PySem.W.Frag} {mg : Str → Option Value} {base : Heap}
abbrev φ23 : Ph := phD (fun _ : Frm => True) (fun F => [.p (eF F)]) (fun F => IsP (.tuple (F.map eV)))
def ok23 (T : Tx K mg) : Cal P w K mg base 1 "rows_of" ["frame"] φ23 :=
  T.a23.cal fun F => fnG F c23 (fun ds Rd Rn h => by obtain ⟨d, _, rfl, _⟩ := h; rfl) fun cdv A outer s H hG hr ds Rd Rn h => by
    obtain ⟨F, _, rfl, rfl, rfl⟩ := h
    exact ss_ret (pd_ixT (pd_var 0) pd_int rfl) fun d h => h
abbrev φ24 : Ph := phD (fun F : Frm => F ≠ []) (fun F => [.p (eF F)]) (fun F => IsI (cellsN F))
def ok24 (T : Tx K mg) : Cal P w K mg base 1 "cells_of" ["frame"] φ24 :=
  T.a24.cal fun F => fnG F c24 (fun ds Rd Rn h => by obtain ⟨d, _, rfl, _⟩ := h; rfl) fun cdv A outer s H hG hr ds Rd Rn h => by
    obtain ⟨F, hF, rfl, rfl, rfl⟩ := h
    cases F with
    | nil => exact absurd rfl hF
    | cons r R => exact ss_ret (pdp_eq (pd_lenT (xs := r.map .int) T.z_len (pd_ixT (xs := eV r :: R.map eV) (pd_ixT (pd_var 0) pd_int at1) pd_int at0)) (by rw [List.length_map]; rfl)) fun d h => h
abbrev φ25 : Ph := phD (fun i : Frm × Vec => ∀ r ∈ i.1, bdV r) (fun i => [.p (eF i.1), .p (eV i.2)]) (fun i => IsP (eV (sumsV i.1 i.2)))
def ok25 (T : Tx K mg) : Cal P w K mg base 2 "sums_by" ["frame", "table"] φ25 :=
  let q15 := ok15 (P := P) (w := w) (base := base) T
  T.a25.cal fun F => fnG F c25 (fun ds Rd Rn h => by obtain ⟨d, _, rfl, _⟩ := h; rfl) fun cdv A outer s H hG hr ds Rd Rn h => by
    obtain ⟨⟨F, t⟩, hF, rfl, rfl, rfl⟩ := h
    exact ss_ret (pdp_eq (pd_tupL T.z_tuple (pn_l (pn_c1 (f := fun r => .int (dot r t)) 2 c25.nd (src_tup (as := F) (enc := eV) (pd_ixT (pd_var 0) pd_int rfl)) fun r hr' _ _ _ _ _ => pd_c q15 ⟨(r, t), hF r hr', rfl, rfl, rfl⟩ hG hr (ps_cons (pd_var 2) (ps_cons (pd_var 1) ps_nil))))) (by unfold eV sumsV; rw [List.map_map]; rfl)) fun d h => h
abbrev φ26 : Ph := phD (fun i : Vec × Nat => i.1.length = i.2 ∧ ∀ x ∈ i.1, 0 ≤ x ∧ x ≤ 9) (fun i => [.p (eV i.1), .p (.int i.2)]) (fun i => IsB true)
def ok26 (T : Tx K mg) : Cal P w K mg base 3 "is_frame_row" ["value", "many"] φ26 :=
  let q11 := ok11 (P := P) (w := w) (base := base) T
  T.a26.cal fun F => fnG F c26 (fun ds Rd Rn h => by obtain ⟨d, _, rfl, _⟩ := h; rfl) fun cdv A outer s H hG hr ds Rd Rn h => by
    obtain ⟨⟨v, n⟩, ⟨h1, h2⟩, rfl, rfl, rfl⟩ := h
    have h1 : v.length = n := h1
    refine ss_ifr (PW.pt (pwb_or1 (ptb_not1 (pt_b (pd_isi (pd_var 0) (kit_data (eV v)).2.2.2.1 rfl T.z_isinstance rfl T.z_tuple bt_tuple))) fun _ => pwb_oneO (ptc_neI hr (pd_lenT T.z_len (pd_var 0)) (pd_var 1)))) (fun z => ?_) fun _ => ?_
    · rw [List.length_map, h1] at z
      simp [eV, PyData.isTuple] at z
    · refine ss_ret (pdp_eq (pd_allN T.z_all (pn_c1 (f := fun x => .bool (isCount (.int x) && decide (x ≤ 9))) 2 c26.nd (src_tup (as := v) (enc := .int) (pd_var 0)) fun x hx _ _ _ _ _ => pd_and (pd_c q11 ⟨.int x, trivial, rfl, rfl, rfl⟩ hG (hr.mono (by decide)) (ps_cons (pd_var 2) ps_nil)) fun _ => pd_one (pd_le (pd_var 2) (pd_globI rfl T.v_MOST_ENTRY)))) ?_) fun d h => h
      congr 1
      refine List.all_eq_true.mpr fun x hx => ?_
      have := h2 x hx
      simp [isInt, PyData.isInt, PyData.isBool, intOf, this]
abbrev φ27 : Ph := phD (fun F : Frm => GF F) (fun F => [.p (eF F)]) (fun _ => IsB true)
def ok27 (T : Tx K mg) : Cal P w K mg base 4 "is_frame" ["value"] φ27 :=
  let q26 := ok26 (P := P) (w := w) (base := base) T
  T.a27.cal fun F => fnG F c27 (fun ds Rd Rn h => by obtain ⟨d, _, rfl, _⟩ := h; rfl) fun cdv A outer s H hG hr ds Rd Rn h => by
    obtain ⟨F, g, rfl, rfl, rfl⟩ := h
    have g : GF F := g
    obtain ⟨r, R, rfl⟩ := g.cons
    have hl := g.len
    have hc := g.cells
    have hc1 : 2 ≤ r.length ∧ r.length ≤ 3 := hc
    rw [List.length_cons] at hl
    refine ss_ifr (PW.pt (pwb_or1 (ptb_not1 (pt_b (pd_isi (pd_var 0) (kit_data (eF (r :: R))).2.2.2.1 rfl T.z_isinstance rfl T.z_tuple bt_tuple))) fun _ => pwb_or1 (ptc_neI hr (pd_lenT T.z_len (pd_var 0)) pd_int) fun _ => pwb_or1 (ptb_not1 (pt_b (pd_isi (pd_ixT (pd_var 0) pd_int at0) (kit_data (.str "frame")).2.2.1 rfl T.z_isinstance rfl T.z_str bt_str))) fun _ => pwb_oneO (ptc_neD hr sh_frame sh_frame (pd_ixT (pd_var 0) pd_int at0) pd_str))) (fun z => ?_) fun _ => ?_
    · simp [PyData.isTuple, PyData.isStr, PyData.eqv, eF] at z
    refine ss_set 1 (pd_ixT (pd_var 0) pd_int at1) ?_ c27.nd
    refine ss_ifr (PW.pt (pwb_or1 (ptb_not1 (pt_b (pd_isi (pd_var 1) (kit_data (.tuple ((r :: R).map eV))).2.2.2.1 rfl T.z_isinstance rfl T.z_tuple bt_tuple))) fun _ => pwb_or1 (ptb_not1 (ptc_lele pd_int (pd_lenT T.z_len (pd_var 1)) (pd_globI rfl T.v_MOST_FRAME_ROWS))) fun _ => pwb_oneO (ptb_not1 (pt_b (pd_isi (pd_ixT (xs := eV r :: R.map eV) (pd_var 1) pd_int at0) (kit_data (eV r)).2.2.2.1 rfl T.z_isinstance rfl T.z_tuple bt_tuple))))) (fun z => ?_) fun _ => ?_
    · exfalso
      rw [List.length_map, List.length_cons] at z
      simp [eV, PyData.isTuple] at z
      omega
    refine ss_set 2 (pdp_eq (pd_lenT (xs := r.map .int) T.z_len (pd_ixT (xs := eV r :: R.map eV) (pd_var 1) pd_int at0)) (by rw [List.length_map])) ?_ c27.nd
    refine ss_ifr (PW.pt (pwb_or1 (ptb_not1 (ptc_lele pd_int (pd_var 2) (pd_globI rfl T.v_MOST_CELLS))) fun _ => pwb_oneO (ptb_not1 (pt_b (pd_allN (f := fun _ => true) T.z_all (pn_c1 (as := r :: R) 3 c27.nd (src_tup (enc := eV) (pd_var 1)) fun v hv _ _ _ _ _ => pd_c q26 ⟨(v, r.length), ⟨g.row v hv, fun x hx => ?_⟩, rfl, rfl, rfl⟩ hG (hr.mono (by decide)) (ps_cons (pd_var 3) (ps_cons (pd_var 2) ps_nil)))))))) (fun z => ?_) fun _ => ?_
    · have := g.ent v hv x hx
      show 0 ≤ x ∧ x ≤ 9
      omega
    · exfalso
      simp at z
      omega
    refine ss_ret (pdp_eq (pd_allN (f := fun c => (r :: R).any fun v => decide (0 < v.getD c 0)) T.z_all (pn_c1 (as := List.range r.length) 4 c27.nd (src_range1 rfl T.z_range (by omega) (pd_var 2)) fun c hc' _ _ _ _ _ => pd_anyN (as := r :: R) T.z_any (pn_c1 3 c27.nd (src_tup (enc := eV) (pd_var 1)) fun v hv _ _ _ _ _ => pd_gt (pd_ixT (xs := v.map .int) (pd_var 3) (pd_var 4) (atN ?_)) pd_int))) ?_) fun d h => h
    · have h1 : c < r.length := List.mem_range.mp hc'
      have h2 : v.length = r.length := g.row v hv
      rw [List.getElem?_map, List.getD_eq_getElem?_getD, List.getElem?_eq_getElem (by omega)]
      rfl
    · congr 1
      refine List.all_eq_true.mpr fun c hc' => List.any_eq_true.mpr ⟨r, List.mem_cons_self, ?_⟩
      have h1 : c < r.length := List.mem_range.mp hc'
      have := g.pos r[c] (List.getElem_mem h1)
      rw [List.getD_eq_getElem?_getD, List.getElem?_eq_getElem h1]
      simp
      omega
abbrev φ28 : Ph := phD (fun F : Frm => GF F) (fun F => [.p (eF F)]) (fun F => IsP (eF F))
def ok28 (T : Tx K mg) : Cal P w K mg base 5 "want_frame" ["value"] φ28 :=
  let q27 := ok27 (P := P) (w := w) (base := base) T
  T.a28.cal fun F => fnG F c28 (fun ds Rd Rn h => by obtain ⟨d, _, rfl, _⟩ := h; rfl) fun cdv A outer s H hG hr ds Rd Rn h => by
    obtain ⟨F, g, rfl, rfl, rfl⟩ := h
    refine ss_ifr (ptb_not1 (pt_b (pd_c q27 ⟨F, g, rfl, rfl, rfl⟩ hG hr (ps_cons (pd_var 0) ps_nil)))) (fun z => by cases z) fun _ => ss_ret (pd_var 0) fun d h => h
abbrev φ29 : Ph := phD (fun i : Frm × PyData => GF i.1) (fun i => [.p (eF i.1), .p i.2]) (fun i => IsB (changeOf i.1 i.2))
def ok29 (T : Tx K mg) : Cal P w K mg base 3 "is_change_of" ["frame", "value"] φ29 :=
  let q18 := ok18 (P := P) (w := w) (base := base) T
  let q24 := ok24 (P := P) (w := w) (base := base) T
  let q17 := ok17 (P := P) (w := w) (base := base) T
  let q25 := ok25 (P := P) (w := w) (base := base) T
  T.a29.cal fun F => fnG F c29 (fun ds Rd Rn h => by obtain ⟨d, _, rfl, _⟩ := h; rfl) fun cdv A outer s H hG hr ds Rd Rn h => by
    obtain ⟨⟨F, d⟩, g, rfl, rfl, rfl⟩ := h
    have g : GF F := g
    have hne : F ≠ [] := fun e => by rw [e] at g; exact absurd g.len.1 (by simp)
    refine ss_ret (pd_and (pd_c q18 ⟨(d, cellsN F), trivial, rfl, rfl, rfl⟩ hG hr (ps_cons (pd_var 1) (ps_cons (pd_c q24 ⟨F, hne, rfl, rfl, rfl⟩ hG (hr.mono (by decide)) (ps_cons (pd_var 0) ps_nil)) ps_nil))) fun h1 => ?_) fun d h => h
    exact pd_one (pd_c q17 ⟨sumsV F (vecOf d), trivial, rfl, rfl, rfl⟩ hG hr (ps_cons (pd_c q25 ⟨(F, vecOf d), g.bd, rfl, rfl, rfl⟩ hG hr (ps_cons (pd_var 0) (ps_cons (pdp_eq (pd_var 1) (intRow_eV h1).1) ps_nil))) ps_nil))
end
end K62
/-! lots, layered, moves -/
namespace K62
open PySem PySem.Spec PyProof.Rows L2
section
variable {P : Program} {w : World} {K : PySem.W.Frag} {mg : Str → Option Value} {base : Heap}
theorem GF.ne {F : Frm} (g : GF F) : F ≠ [] := fun e => by rw [e] at g; exact absurd g.len.1 (by simp)
theorem nb {b : Bool} (h : (!b) = true) : b = false := by cases b <;> first | rfl | cases h
theorem nb' {b : Bool} (h : (!b) = false) : b = true := by cases b <;> first | rfl | cases h
theorem len_map_I {α β : Type} (f : α → β) (xs : List α) : (((xs.map f).length : Nat) : Int) = (xs.length : Int) := by rw [List.length_map]
abbrev φ32 : Ph := phD (fun _ : Nat × PyData => True) (fun i => [.p (.int i.1), .p i.2]) (fun i => IsB (countsOf i.1 i.2))
def ok32 (T : Tx K mg) : Cal P w K mg base 3 "is_counts_of" ["many", "value"] φ32 :=
  let q11 := ok11 (P := P) (w := w) (base := base) T
  T.a32.cal fun F => fnG F c32 (fun ds Rd Rn h => by obtain ⟨d, _, rfl, _⟩ := h; rfl) fun cdv A outer s H hG hr ds Rd Rn h => by
    obtain ⟨⟨n, d⟩, _, rfl, rfl, rfl⟩ := h
    refine ss_ret (pd_and (pd_isi (pd_var 1) (kit_data d).2.2.2.1 rfl T.z_isinstance rfl T.z_tuple bt_tuple) fun h1 => ?_) fun d h => h
    obtain ⟨xs, rfl⟩ := isTuple_tup h1
    exact pd_and (pd_eqI hr (pd_lenT T.z_len (pd_var 1)) (pd_var 0)) fun h2 => pd_one (pd_allN T.z_all (pn_c1 2 c32.nd (src_tup (as := xs) (enc := id) (pdp_eq (pd_var 1) (by rw [List.map_id]))) fun x hx _ _ _ _ _ => pd_c q11 ⟨x, trivial, rfl, rfl, rfl⟩ hG hr (ps_cons (pd_var 2) ps_nil)))
abbrev φ33 : Ph := phD (fun i : Frm × Vec => True) (fun i => [.p (eF i.1), .p (eV i.2)]) (fun i => IsB (areSums i.1 i.2))
def ok33 (T : Tx K mg) : Cal P w K mg base 4 "are_sums" ["frame", "value"] φ33 :=
  let q32 := ok32 (P := P) (w := w) (base := base) T
  let q23 := ok23 (P := P) (w := w) (base := base) T
  T.a33.cal fun F => fnG F c33 (fun ds Rd Rn h => by obtain ⟨d, _, rfl, _⟩ := h; rfl) fun cdv A outer s H hG hr ds Rd Rn h => by
    obtain ⟨⟨F, v⟩, _, rfl, rfl, rfl⟩ := h
    exact ss_ret (pd_and (pd_c q32 ⟨(F.length, eV v), trivial, rfl, rfl, rfl⟩ hG hr (ps_cons (pdp_eq (pd_lenT T.z_len (pd_c q23 ⟨F, trivial, rfl, rfl, rfl⟩ hG (hr.mono (by decide)) (ps_cons (pd_var 0) ps_nil))) (by rw [List.length_map])) (ps_cons (pd_var 1) ps_nil))) fun _ => pd_one (pd_allN T.z_all (pn_c1 2 c33.nd (src_tup (as := v) (enc := .int) (pd_var 1)) fun x hx _ _ _ _ _ => pd_le (pd_var 2) (pd_globI rfl T.v_MOST_SUM)))) fun d h => h
theorem pd_tupT {X : Cx} {e : Expr} {pos p : Pos} {Γ : List Sl} {xs : List PyData} (hm : X.mg "tuple" = none) (ha : PE X e (tD (pwOf X) Γ (IsP (.tuple xs)))) (hg : Gl X "tuple" := by rfl) (hs : starEach [e] X.env = (false, eval e X.env) :: starEach [] X.env := by rfl) : PE X (.Call (.Name "tuple" p) [e] [] pos) (tD (pwOf X) Γ (IsP (.tuple xs))) :=
  pd_Y cr_tupT hg hm bt_tuple (ps_cons ha ps_nil hs) (by decide) (by decide) hs rfl
abbrev φ34 : Ph := phD (fun i : Frm × PyData => GF i.1) (fun i => [.p (eF i.1), .p i.2]) (fun i => IsB (tableOf i.1 i.2))
def ok34 (T : Tx K mg) : Cal P w K mg base 5 "is_table_of" ["frame", "value"] φ34 :=
  let q32 := ok32 (P := P) (w := w) (base := base) T
  let q24 := ok24 (P := P) (w := w) (base := base) T
  let q33 := ok33 (P := P) (w := w) (base := base) T
  let q25 := ok25 (P := P) (w := w) (base := base) T
  T.a34.cal fun F => fnG F c34 (fun ds Rd Rn h => by obtain ⟨d, _, rfl, _⟩ := h; rfl) fun cdv A outer s H hG hr ds Rd Rn h => by
    obtain ⟨⟨F, d⟩, g, rfl, rfl, rfl⟩ := h
    have g : GF F := g
    refine ss_ret (pd_and (pd_c q32 ⟨(cellsN F, d), trivial, rfl, rfl, rfl⟩ hG (hr.mono (by decide)) (ps_cons (pd_c q24 ⟨F, g.ne, rfl, rfl, rfl⟩ hG (hr.mono (by decide)) (ps_cons (pd_var 0) ps_nil)) (ps_cons (pd_var 1) ps_nil))) fun h1 => pd_one ?_) fun d h => h
    exact pd_c q33 ⟨(F, sumsV F (vecOf d)), trivial, rfl, rfl, rfl⟩ hG hr (ps_cons (pd_var 0) (ps_cons (pd_tupT T.z_tuple (pd_c q25 ⟨(F, vecOf d), g.bd, rfl, rfl, rfl⟩ hG (hr.mono (by decide)) (ps_cons (pd_var 0) (ps_cons (pdp_eq (pd_var 1) (intRow_eV (countsOf_row h1).1).1) ps_nil)))) ps_nil))
/-! ### layered -/
abbrev φ39 : Ph := phD (fun s : Stk => s ≠ [] ∧ (s.headD []).length ≤ 1000 ∧ ∀ t ∈ s, t.length = (s.headD []).length) (fun s => [.p (eS s)]) (fun s => IsP (eV (countsOver s)))
def ok39 (T : Tx K mg) : Cal P w K mg base 1 "counts_over" ["stack"] φ39 :=
  T.a39.cal fun F => fnG F c39 (fun ds Rd Rn h => by obtain ⟨d, _, rfl, _⟩ := h; rfl) fun cdv A outer s H hG hr ds Rd Rn h => by
    obtain ⟨st, ⟨hne, hsz, hrow⟩, rfl, rfl, rfl⟩ := h
    cases st with
    | nil => exact absurd rfl hne
    | cons t R =>
      have hsz : t.length ≤ 1000 := hsz
      have hrow : ∀ u ∈ t :: R, u.length = t.length := hrow
      refine ss_ret (pdp_eq (pd_tupL T.z_tuple (pn_l (pn_c1 (f := fun c => .int (((t :: R).map fun u => u.getD c 0).sum)) (as := List.range t.length) 1 c39.nd (src_range1 rfl T.z_range (by omega) (pdp_eq (pd_lenT (xs := t.map .int) T.z_len (pd_ixT (xs := eV t :: R.map eV) (pd_var 0) pd_int at0)) (by rw [List.length_map]))) fun c hc _ _ _ _ _ => pd_sumN (as := t :: R) T.z_sum (pn_c1 2 c39.nd (src_tup (enc := eV) (pd_var 0)) fun u hu _ _ _ _ _ => pd_ixT (xs := u.map .int) (pd_var 2) (pd_var 1) (atN ?_))))) ?_) fun d h => h
      · have h1 : c < t.length := List.mem_range.mp hc
        have h2 := hrow u hu
        rw [List.getElem?_map, List.getD_eq_getElem?_getD, List.getElem?_eq_getElem (by omega)]
        rfl
      · unfold eV countsOver
        rw [List.map_map]
        rfl
theorem stk_items {F : Frm} {ds : List PyData} (h : ds.all (tableOf F) = true) : ds = (ds.map vecOf).map eV ∧ ∀ t ∈ ds.map vecOf, t.length = cellsN F := by
  induction ds with
  | nil => exact ⟨rfl, fun t ht => by cases ht⟩
  | cons d ds ih =>
    rw [List.all_cons, Bool.and_eq_true] at h
    obtain ⟨i1, i2⟩ := ih h.2
    have h1 := h.1
    rw [Bool.and_eq_true] at h1
    obtain ⟨e1, e2⟩ := intRow_eV (countsOf_row h1.1).1
    refine ⟨?_, fun t ht => ?_⟩
    · rw [List.map_cons, List.map_cons, ← e1, ← i1]
    · rcases List.mem_cons.mp ht with z | z
      · rw [z]; exact e2
      · exact i2 t z
abbrev φ40 : Ph := phD (fun i : Frm × PyData => GF i.1) (fun i => [.p (eF i.1), .p i.2]) (fun i => IsB (stackVal i.1 i.2))
def ok40 (T : Tx K mg) : Cal P w K mg base 6 "is_stack_value" ["frame", "value"] φ40 :=
  let q34 := ok34 (P := P) (w := w) (base := base) T
  let q39 := ok39 (P := P) (w := w) (base := base) T
  T.a40.cal fun F => fnG F c40 (fun ds Rd Rn h => by obtain ⟨d, _, rfl, _⟩ := h; rfl) fun cdv A outer s H hG hr ds Rd Rn h => by
    obtain ⟨⟨F, d⟩, g, rfl, rfl, rfl⟩ := h
    have g : GF F := g
    refine ss_ifr (b := !(d.isTuple && (decide (1 ≤ ((itemsD d).length : Int)) && decide (((itemsD d).length : Int) ≤ 8)))) (pt_eq (PW.pt (pwb_or1 (y := !(decide (1 ≤ ((itemsD d).length : Int)) && decide (((itemsD d).length : Int) ≤ 8))) (ptb_not1 (pt_b (pd_isi (pd_var 1) (kit_data d).2.2.2.1 rfl T.z_isinstance rfl T.z_tuple bt_tuple))) fun h1 => pwb_oneO ?_)) ?_) (fun z => ?_) fun z => ?_
    · obtain ⟨xs, rfl⟩ := isTuple_tup (nb' h1)
      exact ptb_not1 (ptc_lele pd_int (pd_lenT T.z_len (pd_var 1)) (pd_globI rfl T.v_MOST_LAYERS))
    · simp only [Bool.not_and]
    · refine ss_ret pd_bl fun e he => ?_
      cases he
      have z2 : (d.isTuple && (decide (1 ≤ ((itemsD d).length : Int)) && decide (((itemsD d).length : Int) ≤ 8))) = false := nb z
      show Dd.p (.bool false) = .p (.bool (stackVal F d))
      unfold stackVal
      rw [← Bool.and_assoc, z2, Bool.false_and]
    have z2 : (d.isTuple && (decide (1 ≤ ((itemsD d).length : Int)) && decide (((itemsD d).length : Int) ≤ 8))) = true := nb' z
    have z3 := z2
    rw [Bool.and_eq_true, Bool.and_eq_true] at z3
    obtain ⟨xs, rfl⟩ := isTuple_tup z3.1
    refine ss_ifr (b := !xs.all (tableOf F)) (ptb_not1 (pt_b (pd_allN T.z_all (pn_c1 2 c40.nd (src_tup (as := xs) (enc := id) (pdp_eq (pd_var 1) (by rw [List.map_id]))) fun x hx _ _ _ _ _ => pd_c q34 ⟨(F, x), g, rfl, rfl, rfl⟩ hG hr (ps_cons (pd_var 0) (ps_cons (pd_var 2) ps_nil)))))) (fun y => ?_) fun y => ?_
    · refine ss_ret pd_bl fun e he => ?_
      cases he
      have y2 : xs.all (tableOf F) = false := nb y
      show Dd.p (.bool false) = .p (.bool (stackVal F (.tuple xs)))
      have : stackVal F (.tuple xs) = false := by
        show (_ && (_ && (xs.all (tableOf F) && _))) = false
        rw [y2, Bool.false_and, Bool.and_false, Bool.and_false]
      rw [this]
    have y2 : xs.all (tableOf F) = true := nb' y
    obtain ⟨e1, e2⟩ := stk_items y2
    have hne : xs.map vecOf ≠ [] := fun e => by
      have : xs.length = 0 := by rw [← List.length_map (f := vecOf), e]; rfl
      have h1 := of_decide_eq_true z3.2.1
      have h2 : (itemsD (.tuple xs)).length = xs.length := rfl
      omega
    obtain ⟨t, R, et⟩ : ∃ t R, xs.map vecOf = t :: R := by
      cases h : xs.map vecOf with
      | nil => exact absurd h hne
      | cons t R => exact ⟨t, R, rfl⟩
    rw [et] at e1 e2
    have ht : t.length = cellsN F := e2 t List.mem_cons_self
    have hcs : 2 ≤ cellsN F ∧ cellsN F ≤ 3 := g.cells
    obtain ⟨n, ns, en⟩ : ∃ n ns, countsOver (t :: R) = n :: ns := by
      cases h : countsOver (t :: R) with
      | nil =>
        have := congrArg List.length h
        unfold countsOver at this
        rw [List.length_map, List.length_range] at this
        have h2 : t.length = 0 := this
        omega
      | cons n ns => exact ⟨n, ns, rfl⟩
    refine ss_ret (pdp_eq (pd_le (pd_B (cr_maxT rfl hr (n := n) (ns := ns)) rfl T.z_max bt_max (ps_cons (pdp_eq (pd_c q39 ⟨t :: R, ⟨by simp, by show t.length ≤ 1000; omega, fun u hu => (e2 u hu).trans ht.symm⟩, rfl, rfl, rfl⟩ hG (hr.mono (by decide)) (ps_cons (pdp_eq (pd_var 1) (by rw [e1]; rfl)) ps_nil)) (by rw [en]; rfl)) ps_nil)) (pd_globI rfl T.v_MOST_AT_CELL)) ?_) fun d h => h
    have est : stkOf (.tuple xs) = t :: R := et
    show PyData.bool _ = .bool (stackVal F (.tuple xs))
    unfold stackVal
    rw [← Bool.and_assoc, z2, est, en]
    show _ = PyData.bool (true && (xs.all (tableOf F) && _))
    rw [y2]
    rfl
abbrev φ41 : Ph := phD (fun i : Frm × PyData => GF i.1 ∧ stackVal i.1 i.2 = true) (fun i => [.p (eF i.1), .p i.2]) (fun _ => IsP .none)
def ok41 (T : Tx K mg) : Cal P w K mg base 7 "want_stack" ["frame", "value"] φ41 :=
  let q40 := ok40 (P := P) (w := w) (base := base) T
  T.a41.cal fun F => fnG F c41 (fun ds Rd Rn h => by obtain ⟨d, _, rfl, _⟩ := h; rfl) fun cdv A outer s H hG hr ds Rd Rn h => by
    obtain ⟨⟨F, d⟩, ⟨g, hv⟩, rfl, rfl, rfl⟩ := h
    exact ss_ifr (ptb_not1 (pt_b (pd_c q40 ⟨(F, d), g, rfl, rfl, rfl⟩ hG hr (ps_cons (pd_var 0) (ps_cons (pd_var 1) ps_nil))))) (fun z => by rw [hv] at z; cases z) fun _ => ss_nil rfl
/-! ### moves -/
abbrev φ44 : Ph := phD (fun i : Frm × PyData => GF i.1) (fun i => [.p (eF i.1), .p i.2]) (fun i => IsB (changeIn i.1 i.2))
def ok44 (T : Tx K mg) : Cal P w K mg base 4 "is_change_in" ["frame", "value"] φ44 :=
  let q29 := ok29 (P := P) (w := w) (base := base) T
  T.a44.cal fun F => fnG F c44 (fun ds Rd Rn h => by obtain ⟨d, _, rfl, _⟩ := h; rfl) fun cdv A outer s H hG hr ds Rd Rn h => by
    obtain ⟨⟨F, d⟩, g, rfl, rfl, rfl⟩ := h
    have g : GF F := g
    refine ss_ret (pd_and (pd_c q29 ⟨(F, d), g, rfl, rfl, rfl⟩ hG hr (ps_cons (pd_var 0) (ps_cons (pd_var 1) ps_nil))) fun h1 => pd_one ?_) fun d h => h
    rw [Bool.and_eq_true] at h1
    obtain ⟨e1, _⟩ := intRow_eV h1.1
    exact pd_allN T.z_all (pn_c1 2 c44.nd (src_tup (as := vecOf d) (enc := .int) (pdp_eq (pd_var 1) e1)) fun x hx _ _ _ _ _ => pd_le (pd_B cr_abs rfl T.z_abs bt_abs (ps_cons (pd_var 2) ps_nil)) (pd_globI rfl T.v_MOST_IN_MOVE))
end
end K62
/-! kinds: patterns -/
namespace K62
open PySem PySem.Spec PyProof.Rows L2
/-- sorted(t) of a tuple -/
theorem cr_sortTup {X : Cx} {k : Nat} {β : Type} {enc : β → PyData} {bs : List β} (hr : Room k X.A) (hal : PySem.W.AllAlike (bs.map enc)) (hk : PySem.W.Sortable (bs.map enc)) (hnk : ∀ b, isNk (enc b) = true) (hdep : ∀ b ∈ bs, (enc b).depth ≤ 20) (hz : bs.length ≤ 1000000) : CallR X (.builtin "sorted") (rDN (pwOf X) [.p (.tuple (bs.map enc))] (Is ((bs.mergeSort (leE enc)).map enc))) := by
  intro pins s σ H vs us Q I rv ⟨B, e, r0, q⟩
  obtain ⟨v, rfl, r⟩ := rep1 r0
  obtain ⟨a, ws, rfl, h1, h2⟩ := rep_tup r
  rw [Vals.ref1 rv]
  obtain ⟨its, v1, ⟨o, ho, hcl, n, hd⟩, hsz⟩ := I.tuple (same_t e h1)
  refine sorted_from (R := EachV X.K B enc) (enc := enc) (wpAny_collect_seq a (.inr rfl) ho hcl hd (fun h' hkeep => ?_) (by rw [List.size_toArray, ← v1.length]; exact hsz)) (by have := hr.un; omega)
  have I1 : Inv X pins σ H { s with heap := h' } := I.kept (t' := s.toks) hkeep
  have hE : PySem.W.EachIs (EachV X.K B enc) its.toArray.toList bs := by
    have := each_of v1 h2
    simpa using this
  refine ⟨bs, hE.mono fun u b ⟨z, h1, h2⟩ => ⟨⟨z, h1, h2⟩, hnk b, Dp.reads I1 _ _ _ (dp_mono e _ _ h2) h1⟩, hal, hk, hz, hdep, fun out h2 c k2 hg ho hO => ?_⟩
  obtain ⟨zs, z1, z2⟩ := of_each hO
  have hn : H h'.objs.size = none := I1.hok.fresh (Nat.le_refl _)
  refine ⟨.ref _, upd H h'.objs.size (.lst zs), I1.laid (t' := s.toks) k2 (Nat.le_refl _) ⟨by rw [z1.length, ho, sizeLine_eq]; omega, out, c, z1, hg⟩, rfl, ?_⟩
  exact q _ zs _ B _ (Ext.hid e hn) rfl hn (e.free hn) upd_same z2
/-! ### facts of the encodings -/
theorem isNks_map {α : Type} {f : α → PyData} (h : ∀ a, isNk (f a) = true) : ∀ xs : List α, isNks (xs.map f) = true
  | [] => rfl
  | x :: xs => by
    show (isNk (f x) && isNks (xs.map f)) = true
    rw [h, isNks_map h xs]
    rfl
theorem isNk_V (v : Vec) : isNk (eV v) = true := isNks_map (f := PyData.int) (fun _ => rfl) v
theorem isNk_S (s : Stk) : isNk (eS s) = true := isNks_map isNk_V s
theorem depthAll_map {α : Type} {f : α → PyData} {n : Nat} (h : ∀ a, (f a).depth ≤ n) : ∀ xs : List α, PyData.depthAll (xs.map f) ≤ n
  | [] => by simp [PyData.depthAll]
  | x :: xs => by
    show PyData.depthAll (f x :: xs.map f) ≤ n
    rw [PyData.depthAll]
    have h1 := h x
    have h2 := depthAll_map h xs
    omega
theorem depth_I (n : Int) : (PyData.int n).depth ≤ 0 := by simp [PyData.depth]
theorem depth_V (v : Vec) : (eV v).depth ≤ 1 := by
  unfold eV
  rw [PyData.depth]
  have := depthAll_map depth_I v
  omega
theorem depth_S (s : Stk) : (eS s).depth ≤ 2 := by
  unfold eS
  rw [PyData.depth]
  have := depthAll_map depth_V s
  omega
theorem nkDepth_all {α : Type} {f : α → PyData} {n : Nat} (h : ∀ a, (nk (f a)).depth ≤ n) : ∀ xs : List α, NestedKey.depthAll (nks (xs.map f)) ≤ n
  | [] => by simp [nks, NestedKey.depthAll]
  | x :: xs => by
    show NestedKey.depthAll (nk (f x) :: nks (xs.map f)) ≤ n
    rw [NestedKey.depthAll]
    have h1 := h x
    have h2 := nkDepth_all h xs
    omega
theorem nkd_I (n : Int) : (nk (PyData.int n)).depth ≤ 0 := by simp [nk, NestedKey.depth]
theorem nkd_V (v : Vec) : (nk (eV v)).depth ≤ 1 := by
  unfold eV
  rw [nk, NestedKey.depth]
  have := nkDepth_all nkd_I v
  omega
theorem nkd_S (s : Stk) : (nk (eS s)).depth ≤ 2 := by
  unfold eS
  rw [nk, NestedKey.depth]
  have := nkDepth_all nkd_V s
  omega
theorem numKs_map {α : Type} {f : α → PyData} (h : ∀ a, numK (nk (f a)) = true) : ∀ xs : List α, numKs (nks (xs.map f)) = true
  | [] => rfl
  | x :: xs => by
    show (numK (nk (f x)) && numKs (nks (xs.map f))) = true
    rw [h, numKs_map h xs]
    rfl
theorem num_V (v : Vec) : numK (nk (eV v)) = true := numKs_map (f := PyData.int) (fun _ => rfl) v
theorem num_S (s : Stk) : numK (nk (eS s)) = true := numKs_map num_V s
theorem keyE_S : KeyE eS := ⟨fun _ _ h => eS_inj h, isNk_S, num_S, nkd_S, fun b => by have := depth_S b; omega, fun b => ⟨_, rfl⟩⟩
theorem shapedAll {α : Type} {f : α → PyData} (h : ∀ a, (f a).canLay0 = true) : ∀ xs : List α, PyData.canLayAll0 (xs.map f) = true
  | [] => rfl
  | x :: xs => by
    show PyData.canLayAll0 (f x :: xs.map f) = true
    rw [PyData.canLayAll0, h, shapedAll h xs]
    rfl
theorem cl_I (n : Int) : (PyData.int n).canLay0 = true := by simp [PyData.canLay0]
theorem cl_V (v : Vec) : (eV v).canLay0 = true := by
  unfold eV
  rw [PyData.canLay0]
  exact shapedAll cl_I v
theorem cl_S (s : Stk) : (eS s).canLay0 = true := by
  unfold eS
  rw [PyData.canLay0]
  exact shapedAll cl_V s
theorem sh_V (v : Vec) : SeqAt.shaped (eV v) = true := by
  unfold SeqAt.shaped
  rw [cl_V]
  have := depth_V v
  simp
  omega
theorem sh_S (s : Stk) : SeqAt.shaped (eS s) = true := by
  unfold SeqAt.shaped
  rw [cl_S]
  have := depth_S s
  simp
  omega
theorem sh_LS (l : List Stk) : SeqAt.shaped (.list (l.map eS)) = true := by
  unfold SeqAt.shaped
  rw [PyData.canLay0, shapedAll cl_S l, PyData.depth]
  have := depthAll_map depth_S l
  simp
  omega
theorem sh_TS (l : List Stk) : SeqAt.shaped (.tuple (l.map eS)) = true := by
  unfold SeqAt.shaped
  rw [PyData.canLay0, shapedAll cl_S l, PyData.depth]
  have := depthAll_map depth_S l
  simp
  omega
theorem sh_LV (l : List Vec) : SeqAt.shaped (.list (l.map eV)) = true := by
  unfold SeqAt.shaped
  rw [PyData.canLay0, shapedAll cl_V l, PyData.depth]
  have := depthAll_map depth_V l
  simp
  omega
theorem sortableV {l : List Vec} (h : ∀ v ∈ l, v ≠ []) : PySem.W.Sortable (l.map eV) := .inl fun d hd => by
  obtain ⟨v, hv, rfl⟩ := List.mem_map.mp hd
  cases v with
  | nil => exact absurd rfl (h _ hv)
  | cons x r => exact ⟨_, _, rfl⟩
theorem sortableS {l : List Stk} (h : ∀ v ∈ l, v ≠ []) : PySem.W.Sortable (l.map eS) := .inl fun d hd => by
  obtain ⟨v, hv, rfl⟩ := List.mem_map.mp hd
  cases v with
  | nil => exact absurd rfl (h _ hv)
  | cons x r => exact ⟨_, _, rfl⟩
/-! ### plain: patterns -/
def negV (v : Vec) : Vec := v.map fun x => -x
def turn (p : Stk) : Stk := sortV (p.map negV)
def minS (a b : Stk) : Stk := if PySem.W.dataLt (eS b) (eS a) then b else a
def patBy (cs : List Vec) : Stk := minS (sortV cs) (turn (sortV cs))
def addV (t c : Vec) : Vec := (t.zip c).map fun p => p.1 + p.2
def okV (v : Vec) : Bool := v.all fun x => decide (0 ≤ x)
def addsTo (cs : List Vec) : Bool := !((List.range (cs.headD []).length).any fun c => (cs.map fun t => t.getD c 0).sum != 0)
abbrev Rows (p : List Vec) : Prop := ∀ v ∈ p, v ≠ []
theorem negV_ne {v : Vec} (h : v ≠ []) : negV v ≠ [] := fun e => h (List.map_eq_nil_iff.mp e)
theorem rows_neg {p : List Vec} (h : Rows p) : Rows (p.map negV) := fun v hv => by
  obtain ⟨u, hu, rfl⟩ := List.mem_map.mp hv
  exact negV_ne (h u hu)
theorem rows_sort {p : List Vec} (h : Rows p) : Rows (sortV p) := fun v hv => h v ((List.mergeSort_perm p _).mem_iff.mp hv)
/-- a list or a tuple of rows -/
def seqD (t : Bool) (cs : List Vec) : PyData := if t then eS cs else .list (cs.map eV)
section
variable {P : Program} {w : World} {K : PySem.W.Frag} {mg : Str → Option Value} {base : Heap}
section
variable {X : Cx} {e : Expr} {pos p : Pos} {Γ : List Sl} {k : Nat} {bs : List Vec}
theorem pn_sortV (hm : X.mg "sorted" = none) (hr : Room k X.A) (hb : Rows bs) (ha : PE X e (tL (pwOf X) Γ (Is (bs.map eV)))) (hg : Gl X "sorted" := by rfl) (hs : starEach [e] X.env = (false, eval e X.env) :: starEach [] X.env := by rfl) : PE X (.Call (.Name "sorted" p) [e] [] pos) (tN (pwOf X) Γ (Is ((sortV bs).map eV))) :=
  pn_BL (cr_sortL hr (PySem.W.AllAlike.of alike_V) (sortableV hb) fun b _ => by have := depth_V b; omega) hg hm bt_sorted ha (by decide) (by decide) hs
theorem pn_sortTV (hm : X.mg "sorted" = none) (hr : Room k X.A) (hb : Rows bs) (hz : bs.length ≤ 1000) (ha : PE X e (tD (pwOf X) Γ (IsP (eS bs)))) (hg : Gl X "sorted" := by rfl) (hs : starEach [e] X.env = (false, eval e X.env) :: starEach [] X.env := by rfl) : PE X (.Call (.Name "sorted" p) [e] [] pos) (tN (pwOf X) Γ (Is ((sortV bs).map eV))) :=
  pn_B (cr_sortTup hr (PySem.W.AllAlike.of alike_V) (sortableV hb) isNk_V (fun b _ => by have := depth_V b; omega) (by omega)) hg hm bt_sorted (ps_cons ha ps_nil hs) (by decide) (by decide) hs rfl
theorem pn_sortSeq {t : Bool} (hm : X.mg "sorted" = none) (hr : Room k X.A) (hb : Rows bs) (hz : bs.length ≤ 1000) (ha : PE X e (tD (pwOf X) Γ (IsP (seqD t bs)))) (hg : Gl X "sorted" := by rfl) (hs : starEach [e] X.env = (false, eval e X.env) :: starEach [] X.env := by rfl) : PE X (.Call (.Name "sorted" p) [e] [] pos) (tN (pwOf X) Γ (Is ((sortV bs).map eV))) := by
  cases t with
  | true => exact pn_sortTV hm hr hb hz ha hg hs
  | false => exact pn_sortV hm hr hb (pd_l ha) hg hs
theorem src_seq {t : Bool} {tg : Expr} {j : Nat} (h : PE X e (tD (pwOf X) Γ (IsP (seqD t bs)))) : Src X tg e Γ (gName j) [j] bs (up1 j eV) := by
  cases t with
  | true => exact src_tup h
  | false => exact src_list h
theorem pd_lenSeq {t : Bool} (hm : X.mg "len" = none) (ha : PE X e (tD (pwOf X) Γ (IsP (seqD t bs)))) (hg : Gl X "len" := by rfl) (hs : starEach [e] X.env = (false, eval e X.env) :: starEach [] X.env := by rfl) : PE X (.Call (.Name "len" p) [e] [] pos) (tD (pwOf X) Γ (IsI bs.length)) := by
  cases t with
  | true => exact pdp_eq (pd_lenT hm ha hg hs) (by rw [List.length_map])
  | false => exact pdp_eq (pd_lenL hm (pd_l ha) hg hs) (by rw [List.length_map])
theorem pd_ixSeq {t : Bool} {a b : Expr} {i : Int} {v : Vec} (ha : PE X a (tD (pwOf X) Γ (IsP (seqD t bs)))) (hb : PE X b (tD (pwOf X) Γ (IsI i))) (h : atI (bs.map eV) i = some (eV v)) (hs : PlainIx b := by intro _ _; rfl) : PE X (.Subscript a b pos) (tD (pwOf X) Γ (IsP (eV v))) := by
  cases t with
  | true => exact pd_ixT ha hb h hs
  | false => exact pd_ixL (pd_l ha) hb h hs
theorem pd_minS {a b : Expr} {u v : Stk} (hm : X.mg "min" = none) (hr : Room k X.A) (ha : PE X a (tD (pwOf X) Γ (IsP (eS u)))) (hb : PE X b (tD (pwOf X) Γ (IsP (eS v)))) (hc : X.calm = true := by rfl) (hg : Gl X "min" := by rfl) (hs : starEach [a, b] X.env = (false, eval a X.env) :: starEach [b] X.env := by rfl) (hs' : starEach [b] X.env = (false, eval b X.env) :: starEach [] X.env := by rfl) (hpl : (backTo pos (starEach [b] X.env)).any (·.1) = false := by rfl) :
    PE X (.Call (.Name "min" p) [a, b] [] pos) (tD (pwOf X) Γ (IsP (eS (minS u v)))) :=
  pdp_eq (pd_B (cr_minD hc hr ⟨fun x hx y hy => by
    simp only [List.mem_cons, List.not_mem_nil, or_false] at hx hy
    rcases hx with rfl | rfl <;> rcases hy with rfl | rfl <;> exact alike_S _ _, fun x hx => by
    simp only [List.mem_cons, List.not_mem_nil, or_false] at hx
    rcases hx with rfl | rfl <;> exact nofun⟩ (by
    have h1 := depth_S u
    have h2 := depth_S v
    simp only [PyData.depthAll]
    omega)) hg hm bt_min (ps_cons ha (ps_cons hb ps_nil hs') hs) (by decide) (by decide) hs hpl) (by unfold minS; split <;> rfl)
end
abbrev φ49 : Ph := phD (fun p : Stk => Rows p) (fun p => [.p (eS p)]) (fun p => IsP (eS (turn p)))
def ok49 (T : Tx K mg) : Cal P w K mg base 1 "turned_pattern" ["pattern"] φ49 :=
  T.a49.cal fun F => fnG F c49 (fun ds Rd Rn h => by obtain ⟨d, _, rfl, _⟩ := h; rfl) fun cdv A outer s H hG hr ds Rd Rn h => by
    obtain ⟨p, hp, rfl, rfl, rfl⟩ := h
    exact ss_ret (pd_tupL T.z_tuple (pn_l (pn_sortV T.z_sorted hr (rows_neg hp) (pl_eq (pn_l (pn_c1 (f := fun v => eV (negV v)) (as := p) 1 c49.nd (src_tup (enc := eV) (pd_var 0)) fun v hv _ _ _ _ _ => pdp_eq (pd_tupL T.z_tuple (pn_l (pn_c1 (f := fun x => .int (-x)) (as := v) 2 c49.nd (src_tup (enc := .int) (pd_var 1)) fun x hx _ _ _ _ _ => pd_neg (pd_var 2)))) (by unfold eV negV; rw [List.map_map]; rfl))) (by rw [List.map_map]; rfl))))) fun d h => h
abbrev φ50 : Ph := phD (fun i : Bool × List Vec => Rows i.2 ∧ i.2.length ≤ 1000) (fun i => [.p (seqD i.1 i.2)]) (fun i => IsP (eS (patBy i.2)))
def ok50 (T : Tx K mg) : Cal P w K mg base 2 "pattern_by" ["changes"] φ50 :=
  let q49 := ok49 (P := P) (w := w) (base := base) T
  T.a50.cal fun F => fnG F c50 (fun ds Rd Rn h => by obtain ⟨d, _, rfl, _⟩ := h; rfl) fun cdv A outer s H hG hr ds Rd Rn h => by
    obtain ⟨⟨t, cs⟩, ⟨hp, hl⟩, rfl, rfl, rfl⟩ := h
    refine ss_set 1 (pd_tupL T.z_tuple (pn_l (pn_sortSeq (bs := cs) (t := t) T.z_sorted hr hp hl (pd_var 0)))) ?_ c50.nd
    exact ss_ret (pd_minS T.z_min hr (pd_var 1) (pd_c q49 ⟨sortV cs, rows_sort hp, rfl, rfl, rfl⟩ hG hr (ps_cons (pd_var 1) ps_nil))) fun d h => h
end
end K62
/-! kinds: patterns, put -/
namespace K62
open PySem PySem.Spec PyProof.Rows L2
section
variable {P : Program} {w : World} {K : PySem.W.Frag} {mg : Str → Option Value} {base : Heap}
/-- rows of n cells, one at least -/
structure Box (n : Nat) (cs : List Vec) : Prop where
  ne : cs ≠ []
  row : ∀ v ∈ cs, v.length = n
  sz : 1 ≤ n ∧ n ≤ 1000
theorem Box.head {n : Nat} {cs : List Vec} (b : Box n cs) : ∃ v R, cs = v :: R ∧ v.length = n := by
  cases cs with
  | nil => exact absurd rfl b.ne
  | cons v R => exact ⟨v, R, rfl, b.row v List.mem_cons_self⟩
theorem Box.rows {n : Nat} {cs : List Vec} (b : Box n cs) : Rows cs := fun v hv e => by
  have := b.row v hv
  rw [e] at this
  have := b.sz.1
  simp at *
  omega
theorem getD_int {v : Vec} {c : Nat} (h : c < v.length) : (v.map PyData.int)[c]? = some (.int (v.getD c 0)) := by
  rw [List.getElem?_map, List.getD_eq_getElem?_getD, List.getElem?_eq_getElem h]
  rfl
abbrev φ51 : Ph := phD (fun i : Bool × List Vec => ∃ n, Box n i.2) (fun i => [.p (seqD i.1 i.2)]) (fun i => IsB (addsTo i.2))
def ok51 (T : Tx K mg) : Cal P w K mg base 1 "adds_to_nought" ["changes"] φ51 :=
  T.a51.cal fun F => fnG F c51 (fun ds Rd Rn h => by obtain ⟨d, _, rfl, _⟩ := h; rfl) fun cdv A outer s H hG hr ds Rd Rn h => by
    obtain ⟨⟨t, cs⟩, ⟨n, b⟩, rfl, rfl, rfl⟩ := h
    have b : Box n cs := b
    obtain ⟨v, R, rfl, hv⟩ := b.head
    have hz := b.sz
    refine ss_ret (pd_not (pd_anyNI (f := fun c : Nat => ((v :: R).map fun u : Vec => u.getD c 0).sum) (as := List.range v.length) T.z_any (pn_c1 1 c51.nd (src_range1 rfl T.z_range (by omega) (pdp_eq (pd_lenT (xs := v.map .int) T.z_len (pd_ixSeq (t := t) (bs := v :: R) (pd_var 0) pd_int at0)) (by rw [List.length_map]))) fun c hc _ _ _ _ _ => pd_sumN (f := fun u : Vec => u.getD c 0) (as := v :: R) T.z_sum (pn_c1 2 c51.nd (src_seq (t := t) (pd_var 0)) fun u hu _ _ _ _ _ => pd_ixT (xs := u.map .int) (pd_var 2) (pd_var 1) (atN (getD_int ?_)))))) fun d h => h
    have h1 : c < v.length := List.mem_range.mp hc
    have h2 := b.row u hu
    omega
def posV (v : Vec) : Vec := v.map fun x => max x 0
abbrev φ52 : Ph := phD (fun _ : Stk => True) (fun p => [.p (eS p)]) (fun p => IsP (.tuple [eS (p.map posV), eS (p.map fun v => posV (negV v))]))
def ok52 (T : Tx K mg) : Cal P w K mg base 1 "ends_by" ["pattern"] φ52 :=
  T.a52.cal fun F => fnG F c52 (fun ds Rd Rn h => by obtain ⟨d, _, rfl, _⟩ := h; rfl) fun cdv A outer s H hG hr ds Rd Rn h => by
    obtain ⟨p, _, rfl, rfl, rfl⟩ := h
    refine ss_set 1 (d := .p (eS (p.map posV))) (pdp_eq (pd_tupL T.z_tuple (pn_l (pn_c1 (f := fun v => eV (posV v)) (as := p) 3 c52.nd (src_tup (enc := eV) (pd_var 0)) fun v hv _ _ _ _ _ => pdp_eq (pd_tupL T.z_tuple (pn_l (pn_c1 (f := fun x => .int (max x 0)) (as := v) 4 c52.nd (src_tup (enc := .int) (pd_var 3)) fun x hx _ _ _ _ _ => pd_B (cr_max2 rfl) rfl T.z_max bt_max (ps_cons (pd_var 4) (ps_cons pd_int ps_nil))))) (by unfold eV posV; rw [List.map_map]; rfl)))) (by unfold eS; rw [List.map_map]; rfl)) ?_ c52.nd
    refine ss_set 2 (d := .p (eS (p.map fun v => posV (negV v)))) (pdp_eq (pd_tupL T.z_tuple (pn_l (pn_c1 (f := fun v => eV (posV (negV v))) (as := p) 3 c52.nd (src_tup (enc := eV) (pd_var 0)) fun v hv _ _ _ _ _ => pdp_eq (pd_tupL T.z_tuple (pn_l (pn_c1 (f := fun x => .int (max (-x) 0)) (as := v) 4 c52.nd (src_tup (enc := .int) (pd_var 3)) fun x hx _ _ _ _ _ => pd_B (cr_max2 rfl) rfl T.z_max bt_max (ps_cons (pd_neg (pd_var 4)) (ps_cons pd_int ps_nil))))) (by unfold eV posV negV; rw [List.map_map, List.map_map]; rfl)))) (by unfold eS; rw [List.map_map]; rfl)) ?_ c52.nd
    exact ss_ret (pd_tup (ps_cons (pd_var 1) (ps_cons (pd_var 2) ps_nil)) rfl (by simp)) fun d h => h
theorem foldl_min_ge : ∀ (ns : List Int) (n : Int), 0 ≤ ns.foldl min n ↔ 0 ≤ n ∧ ∀ x ∈ ns, 0 ≤ x
  | [], n => by simp
  | m :: ns, n => by
    rw [List.foldl_cons, foldl_min_ge ns (min n m)]
    simp only [List.mem_cons, forall_eq_or_imp]
    constructor
    · rintro ⟨h1, h2⟩; exact ⟨by omega, by omega, h2⟩
    · rintro ⟨h1, h2, h3⟩; exact ⟨by omega, h3⟩
theorem min_ok (n : Int) (ns : List Int) : decide (0 ≤ ns.foldl min n) = okV (n :: ns) := by
  unfold okV
  rw [List.all_cons]
  by_cases h : 0 ≤ ns.foldl min n
  · have := (foldl_min_ge ns n).mp h
    simp [h, this.1]
    exact fun x hx => this.2 x hx
  · have h2 : ¬ (0 ≤ n ∧ ∀ x ∈ ns, 0 ≤ x) := fun z => h ((foldl_min_ge ns n).mpr z)
    rw [decide_eq_false h]
    symm
    rw [Bool.and_eq_false_iff]
    by_cases hn : 0 ≤ n
    · right
      cases hq : ns.all fun x => decide (0 ≤ x) with
      | false => rfl
      | true => exact absurd ⟨hn, fun x hx => of_decide_eq_true (List.all_eq_true.mp hq x hx)⟩ h2
    · left; exact decide_eq_false hn
def withC (t c : Vec) : PyData := if okV (addV t c) then eV (addV t c) else .none
abbrev φ53 : Ph := phD (fun i : Vec × Vec => i.1.length = i.2.length ∧ i.1 ≠ []) (fun i => [.p (eV i.1), .p (eV i.2)]) (fun i => IsP (withC i.1 i.2))
def ok53 (T : Tx K mg) : Cal P w K mg base 1 "with_change" ["table", "change"] φ53 :=
  T.a53.cal fun F => fnG F c53 (fun ds Rd Rn h => by obtain ⟨d, _, rfl, _⟩ := h; rfl) fun cdv A outer s H hG hr ds Rd Rn h => by
    obtain ⟨⟨t, c⟩, ⟨hl, hne⟩, rfl, rfl, rfl⟩ := h
    have hl : t.length = c.length := hl
    have hne : t ≠ [] := hne
    obtain ⟨n, ns, en⟩ : ∃ n ns, addV t c = n :: ns := by
      cases t with
      | nil => exact absurd rfl hne
      | cons x t => cases c with
        | nil => simp at hl
        | cons y c => exact ⟨_, _, rfl⟩
    refine ss_set 2 (d := .p (eV (addV t c))) (pdp_eq (pd_tupL T.z_tuple (pn_l (pn_c2 (f := fun p => .int (p.1 + p.2)) 3 4 c53.nd (src_zip (as := t) (bs := c) (enc := .int) (enc2 := .int) rfl T.z_zip (pd_var 0) (pd_var 1)) fun p hp _ _ _ _ _ => pd_add (pd_var 3) (pd_var 4)))) (by unfold eV addV; rw [List.map_map]; rfl)) ?_ c53.nd
    refine ss_ret (pd_eq (pd_if1 (ptc_ge (pd_B (cr_minT rfl hr (n := n) (ns := ns)) rfl T.z_min bt_min (ps_cons (pdp_eq (pd_var 2) (by rw [en]; rfl)) ps_nil)) pd_int) (fun _ => pd_var 2) (fun _ => pd_non)) ?_) fun d h => h
    show (if decide (0 ≤ ns.foldl min n) = true then _ else _) = _
    rw [min_ok, ← en]
    unfold withC
    split <;> rfl
end
end K62
/-! put_all -/
namespace K62
open PySem PySem.Spec PyProof.Rows L2
abbrev UH := List Nat × Stk
def eN (u : List Nat) : PyData := .tuple (u.map fun (l : Nat) => .int (l : Int))
def eU (x : UH) : PyData := .tuple [eN x.1, eS x.2]
def begN (same : Bool) (u : List Nat) : Nat := if same then u.getLastD 0 + 1 else 0
def ext1 (c : Vec) (x : UH) (l : Nat) : Option UH := if l ∈ x.1 then none else if okV (addV (x.2.getD l []) c) then some (x.1 ++ [l], x.2.set l (addV (x.2.getD l []) c)) else none
def placesN (n : Nat) (same : Bool) (u : List Nat) : List Nat := (List.range (n - begN same u)).map (begN same u + ·)
def extPut (n : Nat) (same : Bool) (c : Vec) (x : UH) : List UH := (placesN n same x.1).filterMap (ext1 c x)
def sameN (cs : List Vec) (i : Nat) : Bool := decide (0 < i) && decide (cs.getD (i - 1) [] = cs.getD i [])
def putUpto (s : Stk) (cs : List Vec) : Nat → List UH
  | 0 => [([], s)]
  | i + 1 => (putUpto s cs i).flatMap (extPut s.length (sameN cs i) (cs.getD i []))
def pkgPut (s : Stk) (cs : List Vec) : List Stk := (putUpto s cs cs.length).map (·.2)
structure PutC (n : Nat) (s : Stk) (cs : List Vec) : Prop where
  len : 1 ≤ s.length ∧ s.length ≤ 3
  few : cs.length ≤ 3
  row : ∀ t ∈ s, t.length = n
  crow : ∀ c ∈ cs, c.length = n
  sz : 1 ≤ n ∧ n ≤ 1000
theorem addV_len {t c : Vec} {n : Nat} (h1 : t.length = n) (h2 : c.length = n) : (addV t c).length = n := by
  unfold addV
  rw [List.length_map, List.length_zip]
  omega
theorem getD_mem {α : Type} {l : List α} {i : Nat} {d : α} (h : i < l.length) : l.getD i d ∈ l := by
  rw [List.getD_eq_getElem?_getD, List.getElem?_eq_getElem h]
  exact List.getElem_mem h
/-- what the places so far are like -/
structure UOk (n m : Nat) (i : Nat) (x : UH) : Prop where
  len : x.2.length = m
  row : ∀ t ∈ x.2, t.length = n
  use : x.1.length = i
  lt : ∀ l ∈ x.1, l < m
theorem ext1_ok {n m i : Nat} {c : Vec} {x y : UH} {l : Nat} (h : UOk n m i x) (hc : c.length = n) (hl : l < m) (e : ext1 c x l = some y) : UOk n m (i + 1) y := by
  unfold ext1 at e
  split at e
  · cases e
  · split at e
    · cases e
      have ht : (addV (x.2.getD l []) c).length = n := addV_len (h.row _ (getD_mem (by rw [h.len]; exact hl))) hc
      refine ⟨by rw [List.length_set]; exact h.len, fun t hm => ?_, by rw [List.length_append, h.use]; rfl, fun j hj => ?_⟩
      · rcases List.mem_or_eq_of_mem_set hm with z | z
        · exact h.row t z
        · rw [z]; exact ht
      · rcases List.mem_append.mp hj with z | z
        · exact h.lt j z
        · rw [List.mem_singleton.mp z]; exact hl
    · cases e
theorem places_lt {n : Nat} {same : Bool} {u : List Nat} {l : Nat} (h : l ∈ placesN n same u) : begN same u ≤ l ∧ l < n := by
  obtain ⟨k, hk, rfl⟩ := List.mem_map.mp h
  have := List.mem_range.mp hk
  omega
theorem upto_ok {n : Nat} {s : Stk} {cs : List Vec} (h : PutC n s cs) : ∀ i, i ≤ cs.length → ∀ x ∈ putUpto s cs i, UOk n s.length i x
  | 0, _, x, hx => by
    rw [putUpto, List.mem_singleton] at hx
    subst hx
    exact ⟨rfl, h.row, rfl, fun l hl => by cases hl⟩
  | i + 1, hi, x, hx => by
    rw [putUpto, List.mem_flatMap] at hx
    obtain ⟨y, hy, hx⟩ := hx
    obtain ⟨l, hl, e⟩ := List.mem_filterMap.mp hx
    exact ext1_ok (upto_ok h i (by omega) y hy) (h.crow _ (getD_mem (by omega))) (places_lt hl).2 e
theorem extPut_len {n : Nat} {same : Bool} {c : Vec} {x : UH} : (extPut n same c x).length ≤ n := by
  unfold extPut
  refine Nat.le_trans (List.length_filterMap_le _ _) ?_
  unfold placesN
  rw [List.length_map, List.length_range]
  omega
theorem flat_len {α β : Type} {f : α → List β} {n : Nat} (h : ∀ x, (f x).length ≤ n) : ∀ l : List α, (l.flatMap f).length ≤ l.length * n
  | [] => by simp
  | x :: l => by
    rw [List.flatMap_cons, List.length_append, List.length_cons]
    have h1 := h x
    have h2 := flat_len h l
    rw [Nat.succ_mul]
    omega
theorem upto_len {n : Nat} {s : Stk} {cs : List Vec} (h : PutC n s cs) : ∀ i, i ≤ 3 → (putUpto s cs i).length ≤ 27
  | 0, _ => by rw [putUpto]; simp
  | 1, _ => by
    have h2 := h.len.2
    have h1 := flat_len (f := extPut s.length (sameN cs 0) (cs.getD 0 [])) (n := 3) (fun x => Nat.le_trans extPut_len h2) (putUpto s cs 0)
    rw [putUpto]
    have : (putUpto s cs 0).length = 1 := rfl
    omega
  | 2, _ => by
    have h2 := h.len.2
    have h1 := flat_len (f := extPut s.length (sameN cs 0) (cs.getD 0 [])) (n := 3) (fun x => Nat.le_trans extPut_len h2) (putUpto s cs 0)
    have h3 := flat_len (f := extPut s.length (sameN cs 1) (cs.getD 1 [])) (n := 3) (fun x => Nat.le_trans extPut_len h2) (putUpto s cs 1)
    rw [putUpto]
    rw [putUpto] at h3
    have : (putUpto s cs 0).length = 1 := rfl
    rw [putUpto]
    omega
  | 3, _ => by
    have h2 := h.len.2
    have h1 := flat_len (f := extPut s.length (sameN cs 0) (cs.getD 0 [])) (n := 3) (fun x => Nat.le_trans extPut_len h2) (putUpto s cs 0)
    have h3 := flat_len (f := extPut s.length (sameN cs 1) (cs.getD 1 [])) (n := 3) (fun x => Nat.le_trans extPut_len h2) (putUpto s cs 1)
    have h4 := flat_len (f := extPut s.length (sameN cs 2) (cs.getD 2 [])) (n := 3) (fun x => Nat.le_trans extPut_len h2) (putUpto s cs 2)
    have e1 : putUpto s cs 1 = (putUpto s cs 0).flatMap (extPut s.length (sameN cs 0) (cs.getD 0 [])) := rfl
    have e2 : putUpto s cs 2 = (putUpto s cs 1).flatMap (extPut s.length (sameN cs 1) (cs.getD 1 [])) := rfl
    have e3 : putUpto s cs 3 = (putUpto s cs 2).flatMap (extPut s.length (sameN cs 2) (cs.getD 2 [])) := rfl
    have : (putUpto s cs 0).length = 1 := rfl
    rw [e3]
    rw [← e1] at h1
    rw [← e2] at h3
    omega
theorem cut_to {α : Type} {xs : List α} {l : Nat} (h : l ≤ xs.length) : cutD xs none (some (l : Int)) = xs.take l := by
  unfold cutD
  rw [HT.sIx_none, HT.sIx_nat, List.drop_zero, Nat.sub_zero, Nat.min_eq_left h]
theorem cut_from {α : Type} {xs : List α} {l : Nat} (h : l ≤ xs.length) : cutD xs (some (l : Int)) none = xs.drop l := by
  unfold cutD
  rw [HT.sIx_none, HT.sIx_nat, Nat.min_eq_left h, List.take_of_length_le]
  rw [List.length_drop]
  exact Nat.le_refl _
theorem set_cut {α : Type} {xs : List α} {l : Nat} {x : α} (h : l < xs.length) : xs.take l ++ [x] ++ xs.drop (l + 1) = xs.set l x := by
  rw [List.set_eq_take_append_cons_drop, if_pos h, List.append_assoc]
  rfl
theorem any_mem {u : List Nat} {l : Nat} : ((u.map fun (i : Nat) => PyData.int (i : Int)).any fun z => PyData.eqv z (.int (l : Int))) = decide (l ∈ u) := by
  rw [List.any_map]
  cases h : decide (l ∈ u) with
  | true =>
    refine List.any_eq_true.mpr ⟨l, of_decide_eq_true h, ?_⟩
    show PyData.eqv (.int (l : Int)) (.int (l : Int)) = true
    rw [eqv_I]
    simp
  | false =>
    refine List.any_eq_false.mpr fun i hi => ?_
    show ¬ PyData.eqv (.int (i : Int)) (.int (l : Int)) = true
    rw [eqv_I]
    intro z
    have : i = l := by
      have := of_decide_eq_true z
      omega
    subst this
    exact (of_decide_eq_false h) hi
end K62
/-! put_all, walked -/
namespace K62
open PySem PySem.Spec PyProof.Rows L2
section
variable {P : Program} {w : World} {K : PySem.W.Frag} {mg : Str → Option Value} {base : Heap}
theorem sh_N (u : List Nat) : SeqAt.shaped (eN u) = true := by
  have h : (eN u).canLay0 = true := by
    unfold eN
    rw [PyData.canLay0]
    exact shapedAll (f := fun (l : Nat) => PyData.int (l : Int)) (fun a => cl_I _) u
  unfold SeqAt.shaped
  rw [h]
  have h2 : (eN u).depth ≤ 1 := by
    unfold eN
    rw [PyData.depth]
    have := depthAll_map (f := fun (l : Nat) => PyData.int (l : Int)) (n := 0) (fun a => depth_I _) u
    omega
  simp
  omega
theorem beg_last {u : List Nat} (h : u ≠ []) : atI (u.map fun (l : Nat) => PyData.int (l : Int)) (-1) = some (.int (u.getLastD 0 : Nat)) := by
  have e : u = u.dropLast ++ [u.getLast h] := (List.dropLast_concat_getLast h).symm
  have e2 : u.getLastD 0 = u.getLast h := by
    cases u with
    | nil => exact absurd rfl h
    | cons x r => rfl
  rw [e2]
  conv => lhs; rw [e]
  rw [List.map_append]
  exact atI_last _ _
abbrev φ54 : Ph := phD (fun i : Stk × List Vec => True) (fun i => [.p (eS i.2), .p (eS i.1)]) (fun i => Nd)
abbrev φ54n : Ph := phN (fun i : Stk × List Vec => ∃ n, PutC n i.1 i.2) (fun i => [.p (eS i.2), .p (eS i.1)]) (fun i => Is ((pkgPut i.1 i.2).map eS))
def ok54 (T : Tx K mg) : Cal P w K mg base 2 "put_all" ["changes", "stack"] φ54n :=
  let q53 := ok53 (P := P) (w := w) (base := base) T
  T.a54.cal fun F => fnG F c54 (fun ds Rd Rn h => by obtain ⟨d, _, rfl, _⟩ := h; rfl) fun cdv A outer st H hG hr ds Rd Rn h => by
    obtain ⟨⟨s, cs⟩, ⟨n, C⟩, rfl, rfl, rfl⟩ := h
    have C : PutC n s cs := C
    have hs3 := C.len
    have hc3 := C.few
    refine ss_set 2 (d := .p (.list ((putUpto s cs 0).map eU))) (pn_d (pn_lst (xs := [eU ([], s)]) (ps_cons (pd_tup (xs := [.tuple [], eS s]) (ps_cons (pd_tup (xs := []) ps_nil) (ps_cons (pd_var 1) ps_nil))) ps_nil) rfl (by simp))) ?_ c54.nd
    refine ss_for (I := fun i Γ => ∃ a b c d e f g h, Γ = [.d (.p (eS cs)), .d (.p (eS s)), .d (.p (.list ((putUpto s cs i).map eU))), a, b, c, d, e, f, g, h]) rfl PassesOwn.never (src_enumT (j := 3) (k := 4) (as := cs) (enc := eV) rfl T.z_enumerate (pd_var 0)) (pg_tup rfl (pgs_cons (pg_name (i := 3) c54.nd rfl (.inl rfl)) (pgs_cons (pg_name (i := 4) c54.nd rfl (.inl rfl)) pgs_nil))) ⟨_, _, _, _, _, _, _, _, rfl⟩ (fun i p Γ' hp hI => ?_) (fun Γ' hI => ?_)
    · obtain ⟨a, b, c, d, e, f, g, h, rfl⟩ := hI
      obtain ⟨i', v⟩ := p
      obtain ⟨e1, e2⟩ := List.getElem?_zip_eq_some.mp hp
      obtain ⟨hi, e3⟩ := List.getElem?_eq_some_iff.mp e1
      rw [List.length_range] at hi
      rw [List.getElem_range] at e3
      have e3 : i = i' := e3
      subst e3
      have e2 : cs[i]? = some v := e2
      have hv : cs.getD i [] = v := by rw [List.getD_eq_getElem?_getD, e2]; rfl
      have hvl : v.length = n := C.crow v (List.mem_of_getElem? e2)
      refine ss_setN 5 (pn_lst (xs := []) ps_nil rfl (by simp)) (fun ys hys => ?_) c54.nd
      cases hys
      have hU := upto_ok C i (by omega)
      have hLen := upto_len C i (by omega)
      refine ss_for (I := fun j Γ => ∃ d e f g h, Γ = [.d (.p (eS cs)), .d (.p (eS s)), .d (.p (.list ((putUpto s cs i).map eU))), .d (.p (.int (i : Nat))), .d (.p (eV v)), .own ((((putUpto s cs i).take j).flatMap (extPut s.length (sameN cs i) v)).map eU), d, e, f, g, h]) rfl PassesOwn.never (src_pairs (j := 6) (k := 7) (ps := putUpto s cs i) (ea := eN) (eb := eS) (pd_var 2)) (pg_tup rfl (pgs_cons (pg_name (i := 6) c54.nd rfl (.inl rfl)) (pgs_cons (pg_name (i := 7) c54.nd rfl (.inl rfl)) pgs_nil))) ⟨_, _, _, _, _, rfl⟩ (fun j x Γ' hx hI => ?_) (fun Γ' hI => ?_)
      · obtain ⟨d, e, f, g, h, rfl⟩ := hI
        obtain ⟨u, hst⟩ := x
        have hxm : (u, hst) ∈ putUpto s cs i := List.mem_of_getElem? hx
        have ok := hU _ hxm
        have hjl : j < (putUpto s cs i).length := (List.getElem?_eq_some_iff.mp hx).1
        have hul : u.length = i := ok.use
        have hsl : hst.length = s.length := ok.len
        refine ss_set 8 (d := .p (.int (begN (sameN cs i) u : Nat))) (pd_eq (pd_if1 (PW.pt (pwb_and (y := decide (cs.getD (i - 1) [] = v)) (ptc_gt (pd_var 3) pd_int) fun h0 => pwb_one (pt_eq (ptc_eqD hr (sh_V (cs.getD (i - 1) [])) (sh_V v) (pd_ixT (xs := cs.map eV) (pd_var 0) (pdp_eq (pd_sub (pd_var 3) pd_int) (d' := .int ((i - 1 : Nat) : Int)) (by have := of_decide_eq_true h0; congr 1; omega)) (atN (by
          rw [List.getElem?_map, List.getD_eq_getElem?_getD, List.getElem?_eq_getElem (by omega)]
          rfl))) (pd_var 4)) (eqv_V _ _)))) (d := .p (.int (((u.getLastD 0 : Nat) : Int) + 1))) (d' := .p (.int 0)) (fun hb => pd_add (pd_ixT (xs := u.map fun (l : Nat) => .int (l : Int)) (pd_var 6) (pd_neg pd_int) (beg_last (fun z => ?_))) pd_int) (fun _ => pd_int)) ?_) ?_ c54.nd
        · rw [Bool.and_eq_true] at hb
          have := of_decide_eq_true hb.1
          rw [z] at hul
          simp at hul
          omega
        · unfold begN sameN
          rw [hv]
          have e0 : decide ((0 : Int) < (i : Nat)) = decide (0 < i) := by
            by_cases h : 0 < i <;> simp [h]
          rw [e0]
          split <;> rfl
        have hbeg : begN (sameN cs i) u ≤ 1000 := by
          unfold begN
          split
          · have : u.getLastD 0 ≤ 3 := by
              cases u with
              | nil => simp
              | cons y r =>
                have := ok.lt ((y :: r).getLast (by simp)) (List.getLast_mem _)
                show (y :: r).getLast _ ≤ 3
                omega
            omega
          · omega
        refine ss_for (I := fun l Γ => ∃ g h, Γ = [.d (.p (eS cs)), .d (.p (eS s)), .d (.p (.list ((putUpto s cs i).map eU))), .d (.p (.int (i : Nat))), .d (.p (eV v)), .own (((((putUpto s cs i).take j).flatMap (extPut s.length (sameN cs i) v)) ++ ((placesN s.length (sameN cs i) u).take l).filterMap (ext1 v (u, hst))).map eU), .d (.p (eN u)), .d (.p (eS hst)), .d (.p (.int (begN (sameN cs i) u : Nat))), g, h]) rfl PassesOwn.never (src_range2 (j := 9) (lo := ((begN (sameN cs i) u : Nat) : Int)) (hi := ((List.length s : Nat) : Int)) rfl T.z_range (by omega) (by omega) (by omega) (by omega) (pd_var 8) (pdp_eq (pd_lenT (xs := s.map eV) T.z_len (pd_var 1)) (by rw [List.length_map]))) (pg_name (i := 9) c54.nd rfl (.inl rfl)) ?_ (fun l k Γ' hk hI => ?_) (fun Γ' hI => ?_)
        · refine ⟨g, h, ?_⟩
          rw [List.take_zero, List.filterMap_nil, List.append_nil]
          rfl
        · obtain ⟨g, h, rfl⟩ := hI
          rw [List.getElem?_map] at hk
          obtain ⟨l', hl', ek⟩ := Option.map_eq_some_iff.mp hk
          obtain ⟨hll, el⟩ := List.getElem?_eq_some_iff.mp hl'
          rw [List.length_range] at hll
          rw [List.getElem_range] at el
          subst el
          obtain ⟨kN, hkN⟩ : ∃ kN, kN = begN (sameN cs i) u + l := ⟨_, rfl⟩
          have ek : k = ((kN : Nat) : Int) := by rw [← ek, hkN]; omega
          subst ek
          have hks : kN < s.length := by omega
          have hpl : (placesN s.length (sameN cs i) u)[l]? = some kN := by
            unfold placesN
            rw [List.getElem?_map, List.getElem?_range (by omega), hkN]
            rfl
          have enext : ((placesN s.length (sameN cs i) u).take (l + 1)).filterMap (ext1 v (u, hst)) = ((placesN s.length (sameN cs i) u).take l).filterMap (ext1 v (u, hst)) ++ (ext1 v (u, hst) kN).toList := by
            rw [List.take_add_one, hpl, List.filterMap_append]
            cases hq : ext1 v (u, hst) kN <;> simp [hq]
          have hrow : (hst.getD kN []).length = n := ok.row _ (getD_mem (by show kN < hst.length; omega))
          have hsz := C.sz
          refine ss_set 10 (d := .p (if kN ∈ u then .none else withC (hst.getD kN []) v)) (pd_eq (pd_if1 (pt_eq (ptc_inT hr (shI _) (sh_N u) (pd_var 9) (pd_var 6)) any_mem) (d := .p .none) (d' := .p (withC (hst.getD kN []) v)) (fun _ => pd_non) (fun _ => pd_c q53 ⟨(hst.getD kN [], v), ⟨hrow.trans hvl.symm, fun z => ?_⟩, rfl, rfl, rfl⟩ hG hr (ps_cons (pd_ixT (xs := hst.map eV) (pd_var 7) (pd_var 9) (atN ?_)) (ps_cons (pd_var 4) ps_nil)))) ?_) ?_ c54.nd
          · have : (hst.getD kN []).length = 0 := by
              have z : hst.getD kN [] = [] := z
              rw [z]
              rfl
            omega
          · rw [List.getElem?_map, List.getD_eq_getElem?_getD, List.getElem?_eq_getElem (by omega)]
            rfl
          · by_cases hm : kN ∈ u <;> simp [hm]
          have hbound : ((((putUpto s cs i).take j).flatMap (extPut s.length (sameN cs i) v)) ++ ((placesN s.length (sameN cs i) u).take l).filterMap (ext1 v (u, hst))).length ≤ 1000 := by
            rw [List.length_append]
            have b1 := flat_len (f := extPut s.length (sameN cs i) v) (n := 3) (fun x => Nat.le_trans extPut_len hs3.2) ((putUpto s cs i).take j)
            have b2 : ((placesN s.length (sameN cs i) u).take l).length ≤ 3 := by
              unfold placesN
              rw [List.length_take, List.length_map, List.length_range]
              omega
            have b3 := List.length_filterMap_le (ext1 v (u, hst)) ((placesN s.length (sameN cs i) u).take l)
            have b4 : ((putUpto s cs i).take j).length ≤ 27 := by rw [List.length_take]; omega
            omega
          refine ss_if (T := Is (!isNone (if kN ∈ u then .none else withC (hst.getD kN []) v))) (C := fun Γ => ∃ g h, Γ = [.d (.p (eS cs)), .d (.p (eS s)), .d (.p (.list ((putUpto s cs i).map eU))), .d (.p (.int (i : Nat))), .d (.p (eV v)), .own (((((putUpto s cs i).take j).flatMap (extPut s.length (sameN cs i) v)) ++ ((placesN s.length (sameN cs i) u).take (l + 1)).filterMap (ext1 v (u, hst))).map eU), .d (.p (eN u)), .d (.p (eS hst)), .d (.p (.int (begN (sameN cs i) u : Nat))), g, h]) (ptc_notNone (pd_var 10)) (fun ht => ?_) (fun ht => ss_nil ?_) (fun Γ' hC => ss_nil hC)
          · have ht : true = !isNone (if kN ∈ u then .none else withC (hst.getD kN []) v) := ht
            have hmu : kN ∉ u := fun z => by
              rw [if_pos z] at ht
              cases ht
            have hok : okV (addV (hst.getD kN []) v) = true := by
              cases hq : okV (addV (hst.getD kN []) v) with
              | true => rfl
              | false =>
                rw [if_neg hmu] at ht
                unfold withC at ht
                rw [hq] at ht
                cases ht
            have hex : ext1 v (u, hst) kN = some (u ++ [kN], hst.set kN (addV (hst.getD kN []) v)) := by
              unfold ext1
              rw [if_neg hmu, if_pos hok]
            have hval : (if kN ∈ u then PyData.none else withC (hst.getD kN []) v) = eV (addV (hst.getD kN []) v) := by
              rw [if_neg hmu]
              unfold withC
              rw [if_pos hok]
            refine ss_append 5 (xs := ((((putUpto s cs i).take j).flatMap (extPut s.length (sameN cs i) v)) ++ ((placesN s.length (sameN cs i) u).take l).filterMap (ext1 v (u, hst))).map eU) (T := Is (eU (u ++ [kN], hst.set kN (addV (hst.getD kN []) v)))) (pd_imp (pd_tup (xs := [eN (u ++ [kN]), eS (hst.set kN (addV (hst.getD kN []) v))]) (ps_cons (pdp_eq (pd_catT (xs := u.map fun (l : Nat) => .int (l : Int)) (ys := [.int (kN : Nat)]) (pd_var 6) (pd_tup (ps_cons (pd_var 9) ps_nil) rfl (by simp)) ?_) ?_) (ps_cons (pdp_eq (pd_catT (pd_catT (pd_slT (xs := hst.map eV) (pd_var 7) pod_none (pod_some (pd_var 9))) (pd_tup (xs := [eV (addV (hst.getD kN []) v)]) (ps_cons (pd_eq (pd_var 10) (by rw [hval])) ps_nil) rfl (by simp)) ?_) (pd_slT (xs := hst.map eV) (pd_var 7) (pod_some (pdp_eq (pd_add (pd_var 9) pd_int) (d' := .int ((kN + 1 : Nat) : Int)) (by congr 1))) pod_none) ?_) ?_) ps_nil)) rfl (by simp)) fun d hd => ⟨_, rfl, hd⟩) (by rw [List.length_map]; omega) (fun y hy => ss_nil ?_)
            · rw [List.length_map, hul]
              simp
              omega
            · unfold eN
              rw [List.map_append]
              rfl
            · rw [cut_to (by rw [List.length_map]; omega), List.length_take, List.length_map]
              simp
              omega
            · rw [cut_to (by rw [List.length_map]; omega), cut_from (by rw [List.length_map]; omega), List.length_append, List.length_take, List.length_drop, List.length_map]
              simp
              omega
            · rw [cut_to (by rw [List.length_map]; omega), cut_from (by rw [List.length_map]; omega)]
              unfold eS
              rw [set_cut (by rw [List.length_map]; omega), List.map_set]
            · cases hy
              refine ⟨.d (.p (.int (kN : Nat))), .d (.p (if kN ∈ u then .none else withC (hst.getD kN []) v)), ?_⟩
              rw [enext, hex, Option.toList_some, ← List.append_assoc]
              simp only [List.map_append]
              rfl
          · have ht : false = !isNone (if kN ∈ u then .none else withC (hst.getD kN []) v) := ht
            have hex : ext1 v (u, hst) kN = none := by
              unfold ext1
              by_cases hm : kN ∈ u
              · rw [if_pos hm]
              · rw [if_neg hm]
                rw [if_neg hm] at ht
                unfold withC at ht
                split
                · rename_i ho
                  rw [if_pos ho] at ht
                  cases ht
                · rfl
            refine ⟨.d (.p (.int (kN : Nat))), .d (.p (if kN ∈ u then .none else withC (hst.getD kN []) v)), ?_⟩
            rw [enext, hex, Option.toList_none, List.append_nil]
            rfl
        · obtain ⟨g, h, rfl⟩ := hI
          refine ss_nil ⟨.d (.p (eN u)), .d (.p (eS hst)), .d (.p (.int (begN (sameN cs i) u : Nat))), g, h, ?_⟩
          rw [List.length_map, List.length_range]
          have e1 : (placesN s.length (sameN cs i) u).take ((List.length s : Int) - ((begN (sameN cs i) u : Nat) : Int)).toNat = placesN s.length (sameN cs i) u := by
            rw [List.take_of_length_le]
            unfold placesN
            rw [List.length_map, List.length_range]
            omega
          rw [e1, List.take_add_one, hx, List.flatMap_append]
          simp only [Option.toList_some, List.flatMap_cons, List.flatMap_nil, List.append_nil]
          rfl
      · obtain ⟨d, e, f, g, h, rfl⟩ := hI
        refine ss_freeze 5 (ss_set 2 (pd_var 5) (ss_nil ?_) c54.nd)
        rw [List.take_length]
        refine ⟨.d (.p (.int (i : Nat))), .d (.p (eV v)), .d (.p (.list (((putUpto s cs i).flatMap (extPut s.length (sameN cs i) v)).map eU))), d, e, f, g, h, ?_⟩
        show _ = [Sl.d (.p (eS cs)), .d (.p (eS s)), .d (.p (.list (((putUpto s cs i).flatMap (extPut s.length (sameN cs i) (cs.getD i []))).map eU))), _, _, _, _, _, _, _, _]
        rw [hv]
        rfl
    · obtain ⟨a, b, c, d, e, f, g, h, rfl⟩ := hI
      refine ss_retN (pn_c2 (f := fun x : UH => eS x.2) 6 7 c54.nd (src_pairs (ps := putUpto s cs ((List.range cs.length).zip cs).length) (ea := eN) (eb := eS) (pd_var 2)) fun x hx _ _ _ _ _ => pd_var 7) fun d hd => ?_
      cases hd
      show _ = (pkgPut s cs).map eS
      unfold pkgPut
      rw [List.map_map, List.length_zip, List.length_range, Nat.min_self]
      rfl
end
end K62
/-! steps_of_stack, is_step_of -/
namespace K62
open PySem PySem.Spec PyProof.Rows L2
theorem fm_filter {α β : Type} {f : α → Option β} {t : α → Bool} (h : ∀ a, t a = false → f a = none) : ∀ l : List α, (l.filterMap f).length ≤ (l.filter t).length
  | [] => Nat.le_refl _
  | a :: l => by
    have ih := fm_filter h l
    cases ht : t a with
    | false => rw [List.filterMap_cons_none (h a ht), List.filter_cons_of_neg (by simp [ht])]; exact ih
    | true =>
      rw [List.filter_cons_of_pos ht, List.length_cons]
      cases hf : f a with
      | none => rw [List.filterMap_cons_none hf]; omega
      | some b => rw [List.filterMap_cons_some hf, List.length_cons]; omega
theorem upto_nodup {s : Stk} {cs : List Vec} : ∀ i, ∀ x ∈ putUpto s cs i, x.1.Nodup
  | 0, x, hx => by
    rw [putUpto, List.mem_singleton] at hx
    subst hx
    exact List.nodup_nil
  | i + 1, x, hx => by
    rw [putUpto, List.mem_flatMap] at hx
    obtain ⟨y, hy, hx⟩ := hx
    obtain ⟨l, hl, e⟩ := List.mem_filterMap.mp hx
    unfold ext1 at e
    split at e
    · cases e
    · rename_i hm
      split at e
      · cases e
        exact List.nodup_append.mpr ⟨upto_nodup i y hy, by simp, fun a ha b hb => by
          rw [List.mem_singleton.mp hb]
          exact fun z => hm (z ▸ ha)⟩
      · cases e
theorem ext_few {m i n : Nat} {same : Bool} {c : Vec} {x : UH} (ok : UOk n m i x) (nd : x.1.Nodup) : (extPut m same c x).length ≤ m - i := by
  unfold extPut
  refine Nat.le_trans (fm_filter (t := fun l => decide (l ∉ x.1)) (fun l hl => ?_) _) ?_
  · have : l ∈ x.1 := by simpa using hl
    unfold ext1
    rw [if_pos this]
  · have hnd : ((placesN m same x.1).filter fun l => decide (l ∉ x.1)).Nodup := by
      refine List.Pairwise.filter _ ?_
      unfold placesN
      refine List.pairwise_map.mpr (List.Pairwise.imp (fun {a b} h => ?_) List.nodup_range)
      intro e
      have e : begN same x.1 + a = begN same x.1 + b := e
      exact h (by omega)
    have h := nat_nodup_len (((placesN m same x.1).filter fun l => decide (l ∉ x.1)) ++ x.1) (List.range m) (List.nodup_append.mpr ⟨hnd, nd, fun a ha b hb e => by
      have := (List.mem_filter.mp ha).2
      rw [e] at this
      exact (of_decide_eq_true this) hb⟩) (fun a ha => by
      rcases List.mem_append.mp ha with z | z
      · exact List.mem_range.mpr (places_lt (List.mem_filter.mp z).1).2
      · exact List.mem_range.mpr (ok.lt a z))
    rw [List.length_append, List.length_range, ok.use] at h
    omega
theorem flat_few {α β : Type} {f : α → List β} {n : Nat} : ∀ {l : List α}, (∀ x ∈ l, (f x).length ≤ n) → (l.flatMap f).length ≤ l.length * n
  | [], _ => by simp
  | x :: l, h => by
    rw [List.flatMap_cons, List.length_append, List.length_cons]
    have h1 := h x List.mem_cons_self
    have h2 := flat_few fun y hy => h y (List.mem_cons_of_mem _ hy)
    rw [Nat.succ_mul]
    omega
theorem upto_few {n : Nat} {s : Stk} {cs : List Vec} (h : PutC n s cs) : (putUpto s cs cs.length).length ≤ 6 := by
  have hs := h.len
  have hc := h.few
  have step : ∀ i j, j = i + 1 → i < cs.length → (putUpto s cs j).length ≤ (putUpto s cs i).length * (s.length - i) := fun i j e hi => by
    rw [e, putUpto]
    exact flat_few fun x hx => ext_few (upto_ok h i (by omega) x hx) (upto_nodup i x hx)
  have h0 : (putUpto s cs 0).length = 1 := rfl
  have b1 : 0 < cs.length → (putUpto s cs 1).length ≤ 3 := fun z => by
    have s1 := step 0 1 rfl z
    rw [h0] at s1
    omega
  have b2 : 1 < cs.length → (putUpto s cs 2).length ≤ 6 := fun z => by
    have s2 := step 1 2 rfl z
    have := Nat.mul_le_mul (b1 (by omega)) (show s.length - 1 ≤ 2 by omega)
    omega
  have b3 : 2 < cs.length → (putUpto s cs 3).length ≤ 6 := fun z => by
    have s3 := step 2 3 rfl z
    have := Nat.mul_le_mul (b2 (by omega)) (show s.length - 2 ≤ 1 by omega)
    omega
  rcases (by omega : cs.length = 0 ∨ cs.length = 1 ∨ cs.length = 2 ∨ cs.length = 3) with e | e | e | e
  · rw [e, h0]; omega
  · have := b1 (by omega)
    rw [e]; omega
  · have := b2 (by omega)
    rw [e]; omega
  · have := b3 (by omega)
    rw [e]; omega
theorem pkgPut_few {n : Nat} {s : Stk} {cs : List Vec} (h : PutC n s cs) : (pkgPut s cs).length ≤ 6 := by
  unfold pkgPut
  rw [List.length_map]
  exact upto_few h
theorem pkgPut_ok {n : Nat} {s : Stk} {cs : List Vec} (h : PutC n s cs) {t : Stk} (ht : t ∈ pkgPut s cs) : t.length = s.length ∧ ∀ v ∈ t, v.length = n := by
  obtain ⟨x, hx, rfl⟩ := List.mem_map.mp ht
  have := upto_ok h _ (Nat.le_refl _) x hx
  exact ⟨this.len, this.row⟩
/-! ### steps -/
structure StepC (n : Nat) (b : List Stk) (s : Stk) : Prop where
  len : 1 ≤ s.length ∧ s.length ≤ 3
  row : ∀ t ∈ s, t.length = n
  sz : 1 ≤ n ∧ n ≤ 1000
  few : b.length ≤ 2
  pat : ∀ p ∈ b, p.length ≤ 3 ∧ ∀ c ∈ p, c.length = n
theorem StepC.put {n : Nat} {b : List Stk} {s : Stk} (h : StepC n b s) {p : Stk} (hp : p ∈ b) : PutC n s p := ⟨h.len, (h.pat p hp).1, h.row, (h.pat p hp).2, h.sz⟩
theorem negV_len (v : Vec) : (negV v).length = v.length := List.length_map _
theorem turn_mem {p : Stk} {v : Vec} : v ∈ turn p ↔ ∃ u ∈ p, negV u = v := by
  unfold turn
  rw [(List.mergeSort_perm _ _).mem_iff, List.mem_map]
theorem turn_len (p : Stk) : (turn p).length = p.length := by
  unfold turn
  rw [(List.mergeSort_perm _ _).length_eq, List.length_map]
theorem StepC.putT {n : Nat} {b : List Stk} {s : Stk} (h : StepC n b s) {p : Stk} (hp : p ∈ b) : PutC n s (turn p) := ⟨h.len, by rw [turn_len]; exact (h.pat p hp).1, h.row, fun c hc => by
  obtain ⟨u, hu, rfl⟩ := turn_mem.mp hc
  rw [negV_len]
  exact (h.pat p hp).2 u hu, h.sz⟩
theorem PutC.rows {n : Nat} {s : Stk} {cs : List Vec} (h : PutC n s cs) : Rows cs := fun v hv e => by
  have := h.crow v hv
  have h2 := h.sz
  rw [e] at this
  have : (0 : Nat) = n := this
  omega
def pkgOf (s p : Stk) : List Stk := if p.length ≤ s.length then pkgPut s p ++ (if turn p = p then [] else pkgPut s (turn p)) else []
def pkgFound (b : List Stk) (s : Stk) : List Stk := b.flatMap (pkgOf s)
theorem pkgOf_few {n : Nat} {b : List Stk} {s : Stk} (h : StepC n b s) {p : Stk} (hp : p ∈ b) : (pkgOf s p).length ≤ 12 := by
  have h1 := pkgPut_few (h.put hp)
  have h2 := pkgPut_few (h.putT hp)
  unfold pkgOf
  split
  · split
    · simp; omega
    · rw [List.length_append]; omega
  · simp
theorem pkgFound_few {n : Nat} {b : List Stk} {s : Stk} (h : StepC n b s) : (pkgFound b s).length ≤ 24 := by
  have := flat_few (f := pkgOf s) (n := 12) fun p hp => pkgOf_few h hp
  have := h.few
  unfold pkgFound
  omega
theorem pkgOf_ok {n : Nat} {b : List Stk} {s : Stk} (h : StepC n b s) {p t : Stk} (hp : p ∈ b) (ht : t ∈ pkgOf s p) : t.length = s.length ∧ ∀ v ∈ t, v.length = n := by
  unfold pkgOf at ht
  split at ht
  · rcases List.mem_append.mp ht with z | z
    · exact pkgPut_ok (h.put hp) z
    · split at z
      · cases z
      · exact pkgPut_ok (h.putT hp) z
  · cases ht
theorem pkgFound_ok {n : Nat} {b : List Stk} {s : Stk} (h : StepC n b s) {t : Stk} (ht : t ∈ pkgFound b s) : t.length = s.length ∧ ∀ v ∈ t, v.length = n := by
  obtain ⟨p, hp, ht⟩ := List.mem_flatMap.mp ht
  exact pkgOf_ok h hp ht
/-- in order, each once -/
theorem setS_nodup (l : List Stk) : (setS l).Nodup := (List.mergeSort_perm _ _).nodup_iff.mpr (nodup_one _)
theorem setS_mem {l : List Stk} {t : Stk} : t ∈ setS l ↔ t ∈ l := by
  unfold setS sortS
  rw [(List.mergeSort_perm _ _).mem_iff, List.mem_eraseDups]
theorem setS_of {l : List Stk} {ds : List PyData} (h : SortSet eS l ds) : ds = (setS l).map eS := by
  obtain ⟨bs, h1, h2, rfl⟩ := h
  congr 1
  exact sort_perm eS antiS (nodup_perm h1 (nodup_one _) fun b => by rw [h2, List.mem_eraseDups])
theorem setS_same {l m : List Stk} (h : ∀ t, t ∈ l ↔ t ∈ m) : setS l = setS m :=
  sort_perm eS antiS (nodup_perm (nodup_one _) (nodup_one _) fun b => by rw [List.mem_eraseDups, List.mem_eraseDups, h])
section
variable {P : Program} {w : World} {K : PySem.W.Frag} {mg : Str → Option Value} {base : Heap}
theorem pn_setSort {X : Cx} {k : Nat} {e : Expr} {pos p p2 q1 : Pos} {Γ : List Sl} {as : List Stk} (hm : X.mg "sorted" = none) (hm2 : X.mg "set" = none) (hr : Room k X.A) (hfew : as.length < 64) (hne : ∀ s ∈ as, s ≠ []) (ha : PE X e (tL (pwOf X) Γ (Is (as.map eS)))) (hc : X.calm = true := by rfl) (hg : Gl X "sorted" := by rfl) (hg2 : Gl X "set" := by rfl) (na : starEach [e] X.env = (false, eval e X.env) :: starEach [] X.env := by rfl) :
    PE X (.Call (.Name "sorted" p) [.Call (.Name "set" p2) [e] [] q1] [] pos) (tN (pwOf X) Γ (Is ((setS as).map eS))) :=
  pn_imp (pn_sortSet hc hr keyE_S alike_S (fun bs hb => sortableS fun v hv => hne v (hb v hv)) hfew hg hm hg2 hm2 ha na) fun d h => setS_of h
abbrev φ55 : Ph := phN (fun i : List Stk × Stk => ∃ n, StepC n i.1 i.2) (fun i => [.p (eB i.1), .p (eS i.2)]) (fun i => Is ((setS (pkgFound i.1 i.2)).map eS))
def ok55 (T : Tx K mg) : Cal P w K mg base 3 "steps_of_stack" ["patterns", "stack"] φ55 :=
  let q54 := ok54 (P := P) (w := w) (base := base) T
  let q49 := ok49 (P := P) (w := w) (base := base) T
  T.a55.cal fun F => fnG F c55 (fun ds Rd Rn h => by obtain ⟨d, _, rfl, _⟩ := h; rfl) fun cdv A outer st H hG hr ds Rd Rn h => by
    obtain ⟨⟨b, s⟩, ⟨n, C⟩, rfl, rfl, rfl⟩ := h
    have C : StepC n b s := C
    refine ss_setN 2 (pn_lst (xs := []) ps_nil rfl (by simp)) (fun ys hys => ?_) c55.nd
    cases hys
    have hfew := C.few
    refine ss_for (I := fun i Γ => ∃ a, Γ = [.d (.p (eB b)), .d (.p (eS s)), .own (((b.take i).flatMap (pkgOf s)).map eS), a]) rfl PassesOwn.never (src_tup (j := 3) (as := b) (enc := eS) (pd_var 0)) (pg_name (i := 3) c55.nd rfl (.inl rfl)) ⟨_, rfl⟩ (fun i p Γ' hp hI => ?_) (fun Γ' hI => ?_)
    · obtain ⟨a, rfl⟩ := hI
      have hpm : p ∈ b := List.mem_of_getElem? hp
      have enext : (b.take (i + 1)).flatMap (pkgOf s) = (b.take i).flatMap (pkgOf s) ++ pkgOf s p := by
        rw [List.take_add_one, hp, List.flatMap_append]
        simp
      have hlen : ((b.take i).flatMap (pkgOf s)).length ≤ 24 := by
        have h1 := flat_few (f := pkgOf s) (n := 12) (l := b.take i) fun q hq => pkgOf_few C (List.mem_of_mem_take hq)
        have h2 : (b.take i).length ≤ 2 := by rw [List.length_take]; omega
        omega
      have p1 := pkgPut_few (C.put hpm)
      have p2 := pkgPut_few (C.putT hpm)
      refine ss_if (T := Is (decide ((p.length : Int) ≤ (s.length : Int)))) (C := fun Γ => Γ = [.d (.p (eB b)), .d (.p (eS s)), .own (((b.take (i + 1)).flatMap (pkgOf s)).map eS), .d (.p (eS p))]) (pt_eq (ptc_le (pd_lenT (xs := p.map eV) T.z_len (pd_var 3)) (pd_lenT (xs := s.map eV) T.z_len (pd_var 1))) (by rw [List.length_map, List.length_map])) (fun ht => ?_) (fun ht => ss_nil ?_) (fun Γ' hC => ss_nil ⟨_, hC⟩)
      · have ht : p.length ≤ s.length := by
          have ht : true = decide ((p.length : Int) ≤ (s.length : Int)) := ht
          have := of_decide_eq_true ht.symm
          omega
        refine ss_extend 2 (xs := ((b.take i).flatMap (pkgOf s)).map eS) (T := Is ((pkgPut s p).map eS)) (pn_c q54 ⟨(s, p), ⟨n, C.put hpm⟩, rfl, rfl, rfl⟩ hG hr (ps_cons (pd_var 3) (ps_cons (pd_var 1) ps_nil))) (fun ys hy => by cases hy; rw [List.length_map, List.length_map]; omega) (fun ys hy => ?_)
        cases hy
        refine ss_if (T := Is (!decide (turn p = p))) (C := fun Γ => Γ = [.d (.p (eB b)), .d (.p (eS s)), .own (((b.take (i + 1)).flatMap (pkgOf s)).map eS), .d (.p (eS p))]) (pt_eq (ptc_neD hr (sh_S (turn p)) (sh_S p) (pd_c q49 ⟨p, (C.put hpm).rows, rfl, rfl, rfl⟩ hG (hr.mono (by decide)) (ps_cons (pd_var 3) ps_nil)) (pd_var 3)) (by rw [eqv_S])) (fun hq => ?_) (fun hq => ss_nil ?_) (fun Γ' hC => ss_nil hC)
        · have hq : turn p ≠ p := by
            have hq : true = !decide (turn p = p) := hq
            intro z
            rw [z] at hq
            simp at hq
          refine ss_extend 2 (xs := ((b.take i).flatMap (pkgOf s)).map eS ++ (pkgPut s p).map eS) (T := Is ((pkgPut s (turn p)).map eS)) (pn_c q54 ⟨(s, turn p), ⟨n, C.putT hpm⟩, rfl, rfl, rfl⟩ hG hr (ps_cons (pd_c q49 ⟨p, (C.put hpm).rows, rfl, rfl, rfl⟩ hG (hr.mono (by decide)) (ps_cons (pd_var 3) ps_nil)) (ps_cons (pd_var 1) ps_nil))) (fun ys hy => by cases hy; rw [List.length_append, List.length_map, List.length_map, List.length_map]; omega) (fun ys hy => ?_)
          cases hy
          refine ss_nil ?_
          have e2 : pkgOf s p = pkgPut s p ++ pkgPut s (turn p) := by
            unfold pkgOf
            rw [if_pos ht, if_neg hq]
          rw [enext, e2, ← List.append_assoc]
          simp only [List.map_append]
          rfl
        · have hq : turn p = p := by
            have hq : false = !decide (turn p = p) := hq
            exact of_decide_eq_true (nb' hq.symm)
          have e2 : pkgOf s p = pkgPut s p := by
            unfold pkgOf
            rw [if_pos ht, if_pos hq, List.append_nil]
          rw [enext, e2]
          simp only [List.map_append]
          rfl
      · have ht : ¬ p.length ≤ s.length := by
          have ht : false = decide ((p.length : Int) ≤ (s.length : Int)) := ht
          have := of_decide_eq_false ht.symm
          omega
        have e2 : pkgOf s p = [] := by
          unfold pkgOf
          rw [if_neg ht]
        rw [enext, e2, List.append_nil]
        rfl
    · obtain ⟨a, rfl⟩ := hI
      rw [List.take_length]
      exact ss_retN (pn_setSort (as := pkgFound b s) T.z_sorted T.z_set hr (by have := pkgFound_few C; omega) (fun t ht e => by
        have := (pkgFound_ok C ht).1
        rw [e] at this
        have h2 := C.len
        have : (0 : Nat) = s.length := this
        omega) (pl_own 2)) fun d h => h
end
end K62
/-! is_step_of -/
namespace K62
open PySem PySem.Spec PyProof.Rows L2
theorem dec_cast (a b : Nat) : decide ((a : Int) = (b : Int)) = decide (a = b) := by
  by_cases h : a = b
  · rw [decide_eq_true h, decide_eq_true (by omega)]
  · rw [decide_eq_false h, decide_eq_false (by omega)]
def subV (a b : Vec) : Vec := (a.zip b).map fun p => p.2 - p.1
def diffs (s t : Stk) : List Vec := (s.zip t).map fun p => subV p.1 p.2
def nzV (v : Vec) : Bool := v.any (· != 0)
def isStepB (b : List Stk) (s t : Stk) : Bool := decide (s.length = t.length) && decide (patBy ((diffs s t).filter nzV) ∈ b)
theorem nz_ne {v : Vec} (h : nzV v = true) : v ≠ [] := fun e => by rw [e] at h; cases h
theorem any_memS {l : List Stk} {t : Stk} : ((l.map eS).any fun z => PyData.eqv z (eS t)) = decide (t ∈ l) := by
  rw [List.any_map]
  cases h : decide (t ∈ l) with
  | true =>
    refine List.any_eq_true.mpr ⟨t, of_decide_eq_true h, ?_⟩
    show PyData.eqv (eS t) (eS t) = true
    rw [eqv_S]
    simp
  | false =>
    refine List.any_eq_false.mpr fun i hi => ?_
    show ¬ PyData.eqv (eS i) (eS t) = true
    rw [eqv_S]
    intro z
    have z := of_decide_eq_true z
    rw [z] at hi
    exact (of_decide_eq_false h) hi
section
variable {X : Cx} {e a b c tg iter : Expr} {pos spos p p1 p2 q1 : Pos} {Γ : List Sl} {ι : Type} {as : List ι} {x y z : Str} {rest : List Stmt} {po : Po}
/-- x = [elt for y, z in ..] -/
theorem ss_lc2 {up : ι → List Sl → List Sl} {f : ι → PyData} {elt : Expr} {scope : Scope} {py : Pos} {tk} (i j l : Nat) (hN : X.N.Nodup) (src : Src X (.Tuple [.Name y p1, .Name z p2] tk q1) iter Γ (gPair X.K j l) [j, l] as up) (he : ∀ a ∈ as, BlkAll X scope fun Y => PE Y elt (tD (pwOf X) (up a (wipeG Γ [j, l])) (IsP (f a)))) (hr : PSs X rest (tS (pwOf X) (Γ.set i (.own (as.map f))) po)) (hc : X.calm = true := by rfl) (ok : BlkOk X.N X.env.scope scope [(y, j), (z, l)] := by exact blkOk_by rfl) (hj : X.N[j]? = some y := by rfl) (hl : X.N[l]? = some z := by rfl)
    (hx : BlkAll X scope fun Y => Loc Y.env.scope y := by intro _ _ _ _ _; first | exact Or.inl rfl | exact Or.inr rfl) (hf : BlkAll X scope fun Y => Y.fn y = true ∨ Y.env.scope.names.lookup y = some .local := by intro _ _ _ _ _; first | exact .inl rfl | exact .inr rfl)
    (hx2 : BlkAll X scope fun Y => Loc Y.env.scope z := by intro _ _ _ _ _; first | exact Or.inl rfl | exact Or.inr rfl) (hf2 : BlkAll X scope fun Y => Y.fn z = true ∨ Y.env.scope.names.lookup z = some .local := by intro _ _ _ _ _; first | exact .inl rfl | exact .inr rfl)
    (hi : X.N[i]? = some x := by rfl) (hyl : X.env.scope.names.lookup x = some .local := by rfl) (hk : X.env.scope.kind = .function := by rfl) (hln : (py.line == pos.line) = true := by rfl) (hapart : (scope.names.any fun (n, k) => n == x && (k == .local || k == .cell)) = false := by rfl) (hs : ∀ x, foldedSetIterable iter X.env x = pure x := by intro _; rfl) :
    PSs X (.Assign [.Name x py] (.ListComp elt [⟨.Tuple [.Name y p1, .Name z p2] tk q1, iter, [], 0⟩] scope pos) spos :: rest) (tS (pwOf X) Γ po) :=
  ss_setLc (own := [(y, j), (z, l)]) i hc hN src ok (by simp) (fun s H C cl fp => pg_tup hc (pgs_cons (pg_name (i := j) hN hj (hx s H C cl fp) (hf s H C cl fp)) (pgs_cons (pg_name (i := l) hN hl (hx2 s H C cl fp) (hf2 s H C cl fp)) pgs_nil))) he hr hi hyl hk hln hapart hs
/-- x = [elt for y in .. if tst] -/
theorem ss_lc1T {up : ι → List Sl → List Sl} {f : ι → PyData} {t : ι → Bool} {elt tst : Expr} {scope : Scope} {py : Pos} (i j : Nat) (hN : X.N.Nodup) (src : Src X (.Name y p1) iter Γ (gName j) [j] as up) (ht : ∀ a ∈ as, BlkAll X scope fun Y => PT Y tst (tT (pwOf X) (up a (wipeG Γ [j])) (Is (t a)))) (he : ∀ a ∈ as, t a = true → BlkAll X scope fun Y => PE Y elt (tD (pwOf X) (up a (wipeG Γ [j])) (IsP (f a)))) (hr : PSs X rest (tS (pwOf X) (Γ.set i (.own ((as.filter t).map f))) po)) (hc : X.calm = true := by rfl) (ok : BlkOk X.N X.env.scope scope [(y, j)] := by exact blkOk_by rfl) (hj : X.N[j]? = some y := by rfl)
    (hx : BlkAll X scope fun Y => Loc Y.env.scope y := by intro _ _ _ _ _; first | exact Or.inl rfl | exact Or.inr rfl) (hf : BlkAll X scope fun Y => Y.fn y = true ∨ Y.env.scope.names.lookup y = some .local := by intro _ _ _ _ _; first | exact .inl rfl | exact .inr rfl)
    (hi : X.N[i]? = some x := by rfl) (hyl : X.env.scope.names.lookup x = some .local := by rfl) (hk : X.env.scope.kind = .function := by rfl) (hln : (py.line == pos.line) = true := by rfl) (hapart : (scope.names.any fun (n, k) => n == x && (k == .local || k == .cell)) = false := by rfl) (hs : ∀ x, foldedSetIterable iter X.env x = pure x := by intro _; rfl) :
    PSs X (.Assign [.Name x py] (.ListComp elt [⟨.Name y p1, iter, [tst], 0⟩] scope pos) spos :: rest) (tS (pwOf X) Γ po) :=
  ss_setLcT (own := [(y, j)]) i hc hN src ok (by simp) (fun s H C cl fp => pg_name (i := j) hN hj (hx s H C cl fp) (hf s H C cl fp)) ht he hr hi hyl hk hln hapart hs
end
section
variable {P : Program} {w : World} {K : PySem.W.Frag} {mg : Str → Option Value} {base : Heap}
abbrev φ56 : Ph := phD (fun i : List Stk × Stk × Stk => i.2.1.length ≤ 1000) (fun i => [.p (eB i.1), .p (eS i.2.1), .p (eS i.2.2)]) (fun i => IsB (isStepB i.1 i.2.1 i.2.2))
def ok56 (T : Tx K mg) : Cal P w K mg base 3 "is_step_of" ["patterns", "stack", "other"] φ56 :=
  let q50 := ok50 (P := P) (w := w) (base := base) T
  T.a56.cal fun F => fnG F c56 (fun ds Rd Rn h => by obtain ⟨d, _, rfl, _⟩ := h; rfl) fun cdv A outer st H hG hr ds Rd Rn h => by
    obtain ⟨⟨b, s, t⟩, hz, rfl, rfl, rfl⟩ := h
    have hz : s.length ≤ 1000 := hz
    refine ss_ifr (b := !decide (s.length = t.length)) (pt_eq (ptc_neI hr (pd_lenT (xs := s.map eV) T.z_len (pd_var 1)) (pd_lenT (xs := t.map eV) T.z_len (pd_var 2))) (by rw [List.length_map, List.length_map, dec_cast])) (fun z => ?_) fun z => ?_
    · refine ss_ret pd_bl fun d hd => ?_
      cases hd
      have z := nb z
      show Dd.p (.bool false) = .p (.bool (isStepB b s t))
      unfold isStepB
      rw [z]
      rfl
    have z := nb' z
    refine ss_lc2 (f := fun p : Vec × Vec => eV (subV p.1 p.2)) 3 4 5 c56.nd (src_zip (as := s) (bs := t) (enc := eV) (enc2 := eV) rfl T.z_zip (pd_var 1) (pd_var 2)) (fun p hp _ _ _ _ _ => pdp_eq (pd_tupL T.z_tuple (pn_l (pn_c2 (f := fun q : Int × Int => .int (q.2 - q.1)) 6 7 c56.nd (src_zip (as := p.1) (bs := p.2) (enc := .int) (enc2 := .int) rfl T.z_zip (pd_var 4) (pd_var 5)) fun q hq _ _ _ _ _ => pd_sub (pd_var 7) (pd_var 6)))) (by unfold eV subV; rw [List.map_map]; rfl)) ?_
    have e1 : ((s.zip t).map fun p => eV (subV p.1 p.2)) = (diffs s t).map eV := by unfold diffs; rw [List.map_map]; rfl
    rw [e1]
    refine ss_freeze 3 (ss_ret (pdp_eq (pd_inT hr (sh_S (patBy ((diffs s t).filter nzV))) (sh_TS b) (pd_c q50 ⟨(false, (diffs s t).filter nzV), ⟨fun v hv => nz_ne (List.mem_filter.mp hv).2, ?_⟩, rfl, rfl, rfl⟩ hG hr (ps_cons (pn_d (pn_c1T (f := eV) (t := nzV) (as := diffs s t) 8 c56.nd (src_list (enc := eV) (pd_var 3)) (fun v hv _ _ _ _ _ => pt_b (pd_anyV T.z_any (pd_var 8))) fun v hv _ _ _ _ _ _ => pd_var 8)) ps_nil)) (pd_var 0)) ?_) fun d h => h)
    · have h1 := List.length_filter_le nzV (diffs s t)
      have h2 : (diffs s t).length ≤ s.length := by
        unfold diffs
        rw [List.length_map, List.length_zip]
        omega
      show ((diffs s t).filter nzV).length ≤ 1000
      omega
    · rw [any_memS]
      unfold isStepB
      rw [z]
      rfl
end
end K62
/-! plain: all stacks from one, in the order in which they are met -/
namespace K62
open PySem PySem.Spec PyProof.Rows
structure Ent where
  k : Stk
  par : Option Stk
  dep : Nat
def grow1 (h : Ent) (ks : List Ent) (t : Stk) : List Ent := if t ∈ ks.map (·.k) then ks else ks ++ [⟨t, some h.k, h.dep + 1⟩]
def growAt (f : Stk → List Stk) (ks : List Ent) (i : Nat) : List Ent :=
  match ks[i]? with
  | none => ks
  | some h => (f h.k).foldl (grow1 h) ks
def grown (f : Stk → List Stk) (s : Stk) : Nat → List Ent
  | 0 => [⟨s, none, 0⟩]
  | i + 1 => growAt f (grown f s i) i
theorem grow1_pre (h : Ent) (ks : List Ent) (t : Stk) : ∃ m, grow1 h ks t = ks ++ m := by
  unfold grow1
  split
  · exact ⟨[], (List.append_nil _).symm⟩
  · exact ⟨_, rfl⟩
theorem fold_pre (h : Ent) : ∀ (ts : List Stk) (ks : List Ent), ∃ m, ts.foldl (grow1 h) ks = ks ++ m
  | [], ks => ⟨[], (List.append_nil _).symm⟩
  | t :: ts, ks => by
    obtain ⟨m1, e1⟩ := grow1_pre h ks t
    obtain ⟨m2, e2⟩ := fold_pre h ts (grow1 h ks t)
    exact ⟨m1 ++ m2, by rw [List.foldl_cons, e2, e1, List.append_assoc]⟩
theorem growAt_pre (f : Stk → List Stk) (ks : List Ent) (i : Nat) : ∃ m, growAt f ks i = ks ++ m := by
  unfold growAt
  split
  · exact ⟨[], (List.append_nil _).symm⟩
  · exact fold_pre _ _ _
theorem grown_full {f : Stk → List Stk} {s : Stk} {n : Nat} (h : (grown f s n).length ≤ n) : ∀ m, n ≤ m → grown f s m = grown f s n := by
  intro m hm
  induction m with
  | zero =>
    have : n = 0 := by omega
    rw [this]
  | succ m ih =>
    rcases Nat.lt_or_ge m n with c | c
    · have : n = m + 1 := by omega
      rw [this]
    · have e := ih c
      rw [grown, e]
      unfold growAt
      rw [List.getElem?_eq_none (by omega)]
/-- what holds of what has been met -/
structure Met (f : Stk → List Stk) (s : Stk) (ks : List Ent) : Prop where
  root : s ∈ ks.map (·.k)
  nd : (ks.map (·.k)).Nodup
  from_ : ∀ e ∈ ks, (e.par = none ∧ e.k = s ∧ e.dep = 0) ∨ ∃ p ∈ ks, e.par = some p.k ∧ e.dep = p.dep + 1 ∧ e.k ∈ f p.k
theorem Met.one (f : Stk → List Stk) (s : Stk) : Met f s [⟨s, none, 0⟩] := ⟨by simp, by simp, fun e he => by
  rw [List.mem_singleton] at he
  subst he
  exact .inl ⟨rfl, rfl, rfl⟩⟩
theorem Met.grow {f : Stk → List Stk} {s : Stk} {ks : List Ent} (m : Met f s ks) {h : Ent} (hh : h ∈ ks) {t : Stk} (ht : t ∈ f h.k) : Met f s (grow1 h ks t) := by
  unfold grow1
  split
  · exact m
  · rename_i hn
    refine ⟨?_, ?_, fun e he => ?_⟩
    · rw [List.map_append]
      exact List.mem_append_left _ m.root
    · rw [List.map_append]
      exact List.nodup_append.mpr ⟨m.nd, by simp, fun a ha b hb e => by
        rw [List.map_singleton, List.mem_singleton] at hb
        rw [e, hb] at ha
        exact hn ha⟩
    · rcases List.mem_append.mp he with z | z
      · rcases m.from_ e z with c | ⟨p, hp, c⟩
        · exact .inl c
        · exact .inr ⟨p, List.mem_append_left _ hp, c⟩
      · rw [List.mem_singleton] at z
        subst z
        exact .inr ⟨h, List.mem_append_left _ hh, rfl, rfl, ht⟩
theorem grow1_mem {h e : Ent} {ks : List Ent} {t : Stk} (he : e ∈ ks) : e ∈ grow1 h ks t := by
  obtain ⟨m, q⟩ := grow1_pre h ks t
  rw [q]
  exact List.mem_append_left _ he
theorem Met.fold {f : Stk → List Stk} {s : Stk} {h : Ent} : ∀ {ts : List Stk} {ks : List Ent}, Met f s ks → h ∈ ks → (∀ t ∈ ts, t ∈ f h.k) → Met f s (ts.foldl (grow1 h) ks)
  | [], _, m, _, _ => m
  | t :: ts, ks, m, hh, ht => Met.fold (ks := grow1 h ks t) (m.grow hh (ht t List.mem_cons_self)) (grow1_mem hh) (fun u hu => ht u (List.mem_cons_of_mem t hu))
theorem met_grown (f : Stk → List Stk) (s : Stk) : ∀ i, Met f s (grown f s i)
  | 0 => Met.one f s
  | i + 1 => by
    have m := met_grown f s i
    rw [grown]
    unfold growAt
    split
    · exact m
    · rename_i h hi
      exact m.fold (List.mem_of_getElem? hi) fun t ht => ht
/-- all that is met holds what steps keep -/
theorem grown_all {f : Stk → List Stk} {s : Stk} {R : Stk → Prop} (h0 : R s) (hs : ∀ t u, R t → u ∈ f t → R u) (i : Nat) : ∀ e ∈ grown f s i, R e.k := by
  have m := met_grown f s i
  have key : ∀ (d : Nat) (e : Ent), e ∈ grown f s i → e.dep ≤ d → R e.k := by
    intro d
    induction d with
    | zero =>
      intro e he hd
      rcases m.from_ e he with ⟨_, c, _⟩ | ⟨p, hp, c1, c2, c3⟩
      · rw [c]; exact h0
      · omega
    | succ d ih =>
      intro e he hd
      rcases m.from_ e he with ⟨_, c, _⟩ | ⟨p, hp, c1, c2, c3⟩
      · rw [c]; exact h0
      · exact hs p.k e.k (ih p hp (by omega)) c3
  exact fun e he => key e.dep e he (Nat.le_refl _)
theorem fold_mem {h : Ent} : ∀ {ts : List Stk} {ks : List Ent}, (∀ t ∈ ts, t ∈ (ts.foldl (grow1 h) ks).map (·.k)) ∧ ∀ t ∈ ks.map (·.k), t ∈ (ts.foldl (grow1 h) ks).map (·.k)
  | [], ks => ⟨(fun t ht => by cases ht), (fun t ht => ht)⟩
  | t :: ts, ks => by
    obtain ⟨h1, h2⟩ := fold_mem (h := h) (ts := ts) (ks := grow1 h ks t)
    have ht : t ∈ (grow1 h ks t).map (·.k) := by
      unfold grow1
      split
      · assumption
      · rw [List.map_append]
        exact List.mem_append_right _ (by simp)
    have hk : ∀ u ∈ ks.map (·.k), u ∈ (grow1 h ks t).map (·.k) := fun u hu => by
      obtain ⟨m, e⟩ := grow1_pre h ks t
      rw [e, List.map_append]
      exact List.mem_append_left _ hu
    refine ⟨fun u hu => ?_, fun u hu => h2 u (hk u hu)⟩
    rcases List.mem_cons.mp hu with z | z
    · rw [z]; exact h2 t ht
    · exact h1 u z
theorem grown_le (f : Stk → List Stk) (s : Stk) {i j : Nat} (h : i ≤ j) : ∃ m, grown f s j = grown f s i ++ m := by
  induction j with
  | zero =>
    have : i = 0 := by omega
    rw [this]
    exact ⟨[], (List.append_nil _).symm⟩
  | succ j ih =>
    rcases Nat.lt_or_ge j i with c | c
    · have : i = j + 1 := by omega
      rw [this]
      exact ⟨[], (List.append_nil _).symm⟩
    · obtain ⟨m, e⟩ := ih c
      obtain ⟨m2, e2⟩ := growAt_pre f (grown f s j) j
      exact ⟨m ++ m2, by rw [grown, e2, e, List.append_assoc]⟩
/-- closed under steps, when full -/
theorem grown_closed {f : Stk → List Stk} {s : Stk} {n : Nat} (h : (grown f s n).length ≤ n) {t u : Stk} (ht : t ∈ (grown f s n).map (·.k)) (hu : u ∈ f t) : u ∈ (grown f s n).map (·.k) := by
  obtain ⟨e, he, rfl⟩ := List.mem_map.mp ht
  obtain ⟨i, hi⟩ := List.mem_iff_getElem?.mp he
  have hlt : i < (grown f s n).length := (List.getElem?_eq_some_iff.mp hi).1
  -- at the i-th turn its steps were put in
  have hlen : ∀ j, j ≤ n → j ≤ (grown f s n).length → j < (grown f s j).length ∨ (grown f s n).length ≤ j := by
    intro j hj hj2
    rcases Nat.lt_or_ge j (grown f s j).length with c | c
    · exact .inl c
    · exact .inr (by rw [grown_full c n hj]; exact c)
  have hji : i < (grown f s i).length := by
    rcases hlen i (by omega) (by omega) with c | c
    · exact c
    · omega
  obtain ⟨m, em⟩ := grown_le f s (show i ≤ n by omega)
  have hi2 : (grown f s i)[i]? = some e := by
    rw [em, List.getElem?_append_left hji] at hi
    exact hi
  obtain ⟨m2, em2⟩ := grown_le f s (show i + 1 ≤ n by omega)
  have : u ∈ (grown f s (i + 1)).map (·.k) := by
    rw [grown]
    unfold growAt
    rw [hi2]
    exact (fold_mem (h := e)).1 u hu
  rw [em2, List.map_append]
  exact List.mem_append_left _ this
/-- the final list -/
abbrev full (f : Stk → List Stk) (s : Stk) : List Ent := grown f s 1001
end K62
/-! stacks_from, closed_of_stack, road_of_stacks -/
namespace K62
open PySem PySem.Spec PyProof.Rows L2
def stepsB (b : List Stk) (s : Stk) : List Stk := setS (pkgFound b s)
def kvP (e : Ent) : PyData × PyData := (eS e.k, match e.par with
  | none => .none
  | some p => eS p)
theorem kvP_keys (ks : List Ent) : (ks.map kvP).map (·.1) = (ks.map (·.k)).map eS := by
  rw [List.map_map, List.map_map]
  rfl
theorem keyD_S (s : Stk) : KeyD (eS s) := keyE_S.key s
theorem mem_eS {ks : List Stk} {t : Stk} : eS t ∈ ks.map eS ↔ t ∈ ks := by
  constructor
  · intro h
    obtain ⟨u, hu, e⟩ := List.mem_map.mp h
    rw [← eS_inj e]
    exact hu
  · exact fun h => List.mem_map_of_mem h
/-- a walk's bounds -/
structure Reach (n : Nat) (b : List Stk) (s : Stk) : Prop where
  step : StepC n b s
  few : ∀ i, (grown (stepsB b) s i).length ≤ 1000
theorem StepC.next {n : Nat} {b : List Stk} {s t : Stk} (h : StepC n b s) (ht : t ∈ stepsB b s) : StepC n b t := by
  obtain ⟨h1, h2⟩ := pkgFound_ok h (setS_mem.mp ht)
  exact ⟨by rw [h1]; exact h.len, h2, h.sz, h.few, h.pat⟩
theorem Reach.all {n : Nat} {b : List Stk} {s : Stk} (r : Reach n b s) (i : Nat) : ∀ e ∈ grown (stepsB b) s i, StepC n b e.k := grown_all (R := StepC n b) r.step (fun t u ht hu => ht.next hu) i
section
variable {P : Program} {w : World} {K : PySem.W.Frag} {mg : Str → Option Value} {base : Heap}
abbrev φ57 : Ph := phD (fun i : List Stk × Stk => ∃ n, Reach n i.1 i.2) (fun i => [.p (eB i.1), .p (eS i.2)]) (fun i => Is (.dic ((full (stepsB i.1) i.2).map kvP)))
def ok57 (T : Tx K mg) : Cal P w K mg base 4 "stacks_from" ["patterns", "stack"] φ57 :=
  let q55 := ok55 (P := P) (w := w) (base := base) T
  T.a57.cal fun F => fnG F c57 (fun ds Rd Rn h => by obtain ⟨d, _, rfl, _⟩ := h; rfl) fun cdv A outer st H hG hr ds Rd Rn h => by
    obtain ⟨⟨b, s⟩, ⟨n, R⟩, rfl, rfl, rfl⟩ := h
    have R : Reach n b s := R
    refine ss_par3 2 3 4 (Sa := Is (.owd [(eS s, .none)])) (Sb := fun z => ∃ xs, Is [eS s] xs ∧ z = .own xs) (Sc := fun z => ∃ d, IsI 0 d ∧ z = .d d) rfl (pv_dict (pe_dictKV hr (keyD_S s) (pd_var 1) pd_non)) (pv_n (pn_lst (ps_cons (pd_var 1) ps_nil) rfl (by simp))) (pv_d pd_int) (fun x y z hx hy hz => ?_) c57.nd
    cases hx
    obtain ⟨xs, hxs, rfl⟩ := hy
    cases hxs
    obtain ⟨d, hd, rfl⟩ := hz
    cases hd
    refine ss_while (t := fun i => decide (((i : Nat) : Int) < ((grown (stepsB b) s i).length : Int))) (W := fun i => [.d (.p (eB b)), .d (.p (eS s)), .owd ((grown (stepsB b) s i).map kvP), .own (((grown (stepsB b) s i).map (·.k)).map eS), .d (.p (.int (i : Nat))), .any]) (m := fun i => 1001 - i) (i0 := 0) (C := fun i => i ≤ (grown (stepsB b) s i).length) PassesOwn.never rfl (Nat.zero_le _) (fun i hi => pt_eq (ptc_lt (pd_var 4) (pd_lenL T.z_len (pl_own 3))) (by rw [List.length_map, List.length_map])) (fun i hi ht => ?_) (fun i hi ht => ?_)
    · have hlt : i < (grown (stepsB b) s i).length := by
        have := of_decide_eq_true ht
        omega
      obtain ⟨hd, eh⟩ : ∃ hd, (grown (stepsB b) s i)[i]? = some hd := ⟨_, List.getElem?_eq_getElem hlt⟩
      have hdC : StepC n b hd.k := R.all i hd (List.mem_of_getElem? eh)
      have enext : grown (stepsB b) s (i + 1) = (stepsB b hd.k).foldl (grow1 hd) (grown (stepsB b) s i) := by
        rw [grown]
        unfold growAt
        rw [eh]
      have hat : atI (((grown (stepsB b) s i).map (·.k)).map eS) ((i : Nat) : Int) = some (eS hd.k) := atN (by rw [List.getElem?_map, List.getElem?_map, eh]; rfl)
      have hfewA := R.few (i + 1)
      rw [enext] at hfewA
      refine ss_for (as := stepsB b hd.k) (I := fun j Γ => ∃ a, Γ = [.d (.p (eB b)), .d (.p (eS s)), .owd ((((stepsB b hd.k).take j).foldl (grow1 hd) (grown (stepsB b) s i)).map kvP), .own (((((stepsB b hd.k).take j).foldl (grow1 hd) (grown (stepsB b) s i)).map (·.k)).map eS), .d (.p (.int (i : Nat))), a]) rfl PassesOwn.never (src_list (j := 5) (enc := eS) (pn_d (pn_c q55 ⟨(b, hd.k), ⟨n, hdC⟩, rfl, rfl, rfl⟩ hG hr (ps_cons (pd_var 0) (ps_cons (pd_ixL (pl_own 3) (pd_var 4) hat) ps_nil))))) (pg_name (i := 5) c57.nd rfl (.inl rfl)) ⟨_, rfl⟩ (fun j t Γ' hj hI => ?_) (fun Γ' hI => ?_)
      · obtain ⟨a, rfl⟩ := hI
        obtain ⟨ks, eks⟩ : ∃ ks, ks = ((stepsB b hd.k).take j).foldl (grow1 hd) (grown (stepsB b) s i) := ⟨_, rfl⟩
        rw [← eks]
        have en : ((stepsB b hd.k).take (j + 1)).foldl (grow1 hd) (grown (stepsB b) s i) = grow1 hd ks t := by
          rw [List.take_add_one, hj, List.foldl_append, ← eks]
          rfl
        have hpre : ∃ m, ks = grown (stepsB b) s i ++ m := by
          rw [eks]
          exact fold_pre hd _ _
        obtain ⟨mm, emm⟩ := hpre
        have hks : ks.length ≤ 1000 := by
          obtain ⟨m2, e2⟩ := fold_pre hd ((stepsB b hd.k).drop j) ks
          have : (stepsB b hd.k).foldl (grow1 hd) (grown (stepsB b) s i) = ks ++ m2 := by
            conv => lhs; rw [← List.take_append_drop j (stepsB b hd.k)]
            rw [List.foldl_append, ← eks, e2]
          rw [this, List.length_append] at hfewA
          omega
        have hat2 : atI ((ks.map (·.k)).map eS) ((i : Nat) : Int) = some (eS hd.k) := atN (by rw [emm, List.map_append, List.map_append, List.getElem?_append_left (by rw [List.length_map, List.length_map]; exact hlt), List.getElem?_map, List.getElem?_map, eh]; rfl)
        have hkey : decide (t ∈ ks.map (·.k)) = true ↔ eS t ∈ (ks.map kvP).map (·.1) := by
          rw [kvP_keys, mem_eS]
          exact decide_eq_true_iff
        refine ss_if (T := Is (!decide (t ∈ ks.map (·.k)))) (C := fun Γ => Γ = [.d (.p (eB b)), .d (.p (eS s)), .owd ((grow1 hd ks t).map kvP), .own (((grow1 hd ks t).map (·.k)).map eS), .d (.p (.int (i : Nat))), .d (.p (eS t))]) (ptc_notInM hr (keyD_S t) hkey (pd_var 5) (pm_own 2)) (fun hq => ?_) (fun hq => ss_nil ?_) (fun Γ' hC => ss_nil ⟨.d (.p (eS t)), by rw [en]; exact hC⟩)
        · have hq : t ∉ ks.map (·.k) := by
            have hq : true = !decide (t ∈ ks.map (·.k)) := hq
            exact of_decide_eq_false (nb hq.symm)
          have eg : grow1 hd ks t = ks ++ [⟨t, some hd.k, hd.dep + 1⟩] := by
            unfold grow1
            rw [if_neg hq]
          refine ss_putM 2 (kvs := ks.map kvP) hr (keyD_S t) (fun z => hq (by rw [kvP_keys, mem_eS] at z; exact z)) (by rw [List.length_map]; omega) (pd_ixL (pl_own 3) (pd_var 4) hat2) (pd_var 5) ?_
          refine ss_append 3 (xs := (ks.map (·.k)).map eS) (T := Is (eS t)) (pd_imp (pd_var 5) fun d hd => ⟨_, rfl, hd⟩) (by rw [List.length_map, List.length_map]; omega) (fun y hy => ?_)
          cases hy
          refine ss_nil ?_
          rw [eg, List.map_append, List.map_append, List.map_append]
          rfl
        · have hq : t ∈ ks.map (·.k) := by
            have hq : false = !decide (t ∈ ks.map (·.k)) := hq
            exact of_decide_eq_true (nb' hq.symm)
          have eg : grow1 hd ks t = ks := by
            unfold grow1
            rw [if_pos hq]
          rw [eg]
          rfl
      · obtain ⟨a, rfl⟩ := hI
        rw [List.take_length, ← enext]
        rw [← enext] at hfewA
        refine ss_ifr (ptc_gt (pd_lenM rfl T.z_len (pm_own 2)) (pd_globI rfl T.v_MOST_STACKS)) (fun z => ?_) fun _ => ?_
        · have := of_decide_eq_true z
          rw [List.length_map] at this
          omega
        refine ss_set 4 (pd_add (pd_var 4) pd_int) (ss_any 5 (ss_nil ⟨i + 1, ?_, ?_, ?_⟩)) c57.nd
        · obtain ⟨m, e⟩ := growAt_pre (stepsB b) (grown (stepsB b) s i) i
          show i + 1 ≤ (grown (stepsB b) s (i + 1)).length
          rw [grown, e, List.length_append]
          omega
        · have := R.few i
          show 1001 - (i + 1) < 1001 - i
          omega
        · rfl
    · have hn : (grown (stepsB b) s i).length ≤ i := by
        have := of_decide_eq_false ht
        omega
      have h1 := R.few i
      have hi : i ≤ (grown (stepsB b) s i).length := hi
      refine ss_retM 2 ?_
      show Dd.dic ((grown (stepsB b) s i).map kvP) = .dic ((grown (stepsB b) s 1001).map kvP)
      rw [grown_full hn 1001 (by omega)]
abbrev φ58 : Ph := phN (fun i : List Stk × Stk => ∃ n, Reach n i.1 i.2) (fun i => [.p (eB i.1), .p (eS i.2)]) (fun i => Is ((sortS ((full (stepsB i.1) i.2).map (·.k))).map eS))
def ok58 (T : Tx K mg) : Cal P w K mg base 5 "closed_of_stack" ["patterns", "stack"] φ58 :=
  let q57 := ok57 (P := P) (w := w) (base := base) T
  T.a58.cal fun F => fnG F c58 (fun ds Rd Rn h => by obtain ⟨d, _, rfl, _⟩ := h; rfl) fun cdv A outer st H hG hr ds Rd Rn h => by
    obtain ⟨⟨b, s⟩, ⟨n, R⟩, rfl, rfl, rfl⟩ := h
    have R : Reach n b s := R
    refine ss_retN (pn_BL (cr_sortL hr (PySem.W.AllAlike.of alike_S) (sortableS fun t ht e => ?_) fun b _ => by have := depth_S b; omega) rfl T.z_sorted bt_sorted (pl_eq (pn_l (pn_listM rfl rfl T.z_list (pm_d (pd_c q57 ⟨(b, s), ⟨n, R⟩, rfl, rfl, rfl⟩ hG hr (ps_cons (pd_var 0) (ps_cons (pd_var 1) ps_nil)))))) (kvP_keys _))) fun d h => h
    obtain ⟨en, hen, rfl⟩ := List.mem_map.mp ht
    have := (R.all 1001 en hen).len
    rw [e] at this
    exact absurd this.1 (by simp)
end
end K62
/-! road_of_stacks -/
namespace K62
open PySem PySem.Spec PyProof.Rows L2
def entOf (ks : List Ent) (t : Stk) : Ent := (ks.find? fun e => decide (e.k = t)).getD ⟨t, none, 0⟩
def chain (ks : List Ent) (e : Ent) : Nat → Ent
  | 0 => e
  | i + 1 => entOf ks ((chain ks e i).par.getD [])
theorem entOf_of {ks : List Ent} (nd : (ks.map (·.k)).Nodup) {e : Ent} (he : e ∈ ks) : entOf ks e.k = e := by
  induction ks with
  | nil => cases he
  | cons x ks ih =>
    rw [List.map_cons, List.nodup_cons] at nd
    unfold entOf
    rw [List.find?_cons]
    rcases List.mem_cons.mp he with z | z
    · subst z
      rw [decide_eq_true rfl]
      rfl
    · have hne : x.k ≠ e.k := fun q => nd.1 (by rw [q]; exact List.mem_map_of_mem z)
      rw [decide_eq_false hne]
      exact ih nd.2 z
theorem ent_one {ks : List Ent} (nd : (ks.map (·.k)).Nodup) {e e' : Ent} (he : e ∈ ks) (he' : e' ∈ ks) (h : e.k = e'.k) : e = e' := by
  rw [← entOf_of nd he, ← entOf_of nd he', h]
theorem root_mem (f : Stk → List Stk) (s : Stk) (i : Nat) : (⟨s, none, 0⟩ : Ent) ∈ grown f s i := by
  obtain ⟨m, e⟩ := grown_le f s (Nat.zero_le i)
  rw [e]
  exact List.mem_append_left _ (List.mem_singleton.mpr rfl)
structure Chain (f : Stk → List Stk) (ks : List Ent) (e : Ent) (i : Nat) : Prop where
  mem : chain ks e i ∈ ks
  dep : (chain ks e i).dep = e.dep - i
theorem chain_next {f : Stk → List Stk} {s : Stk} {ks : List Ent} (m : Met f s ks) {e : Ent} {i : Nat} (h : Chain f ks e i) (hi : i < e.dep) : Chain f ks e (i + 1) ∧ (chain ks e i).par = some (chain ks e (i + 1)).k ∧ (chain ks e i).k ∈ f (chain ks e (i + 1)).k := by
  rcases m.from_ _ h.mem with ⟨_, _, c⟩ | ⟨p, hp, c1, c2, c3⟩
  · have := h.dep
    omega
  · have e1 : chain ks e (i + 1) = p := by
      show entOf ks ((chain ks e i).par.getD []) = p
      rw [c1]
      exact entOf_of m.nd hp
    rw [e1]
    refine ⟨⟨by rw [e1]; exact hp, ?_⟩, c1, c3⟩
    rw [e1]
    have := h.dep
    omega
theorem chain_ok {f : Stk → List Stk} {s : Stk} {ks : List Ent} (m : Met f s ks) {e : Ent} (he : e ∈ ks) : ∀ i, i ≤ e.dep → Chain f ks e i
  | 0, _ => ⟨he, rfl⟩
  | i + 1, h => (chain_next m (chain_ok m he i (by omega)) (by omega)).1
theorem chain_end {f : Stk → List Stk} {s : Stk} {ks : List Ent} (m : Met f s ks) (hr : (⟨s, none, 0⟩ : Ent) ∈ ks) {e : Ent} (he : e ∈ ks) {i : Nat} (hi : i ≤ e.dep) : (chain ks e i).k = s ↔ i = e.dep := by
  have c := chain_ok m he i hi
  constructor
  · intro h
    have : chain ks e i = ⟨s, none, 0⟩ := ent_one m.nd c.mem hr h
    have h2 := c.dep
    rw [this] at h2
    have : 0 = e.dep - i := h2
    omega
  · intro h
    rcases m.from_ _ c.mem with ⟨_, q, _⟩ | ⟨p, hp, c1, c2, c3⟩
    · exact q
    · have := c.dep
      omega
def roadL (ks : List Ent) (t : Stk) : List Stk := ((List.range ((entOf ks t).dep + 1)).map fun j => (chain ks (entOf ks t) j).k).reverse
def roadP (ks : List Ent) (t : Stk) : PyData := if t ∈ ks.map (·.k) then eB (roadL ks t) else .none
section
variable {P : Program} {w : World} {K : PySem.W.Frag} {mg : Str → Option Value} {base : Heap}
theorem dep_lt {f : Stk → List Stk} {s : Stk} : ∀ i, ∀ e ∈ grown f s i, e.dep ≤ i
  | 0, e, he => by
    rw [grown, List.mem_singleton] at he
    rw [he]
    exact Nat.le_refl _
  | i + 1, e, he => by
    have fold : ∀ (h : Ent) (ts : List Stk) (ks : List Ent), h.dep ≤ i → (∀ e ∈ ks, e.dep ≤ i + 1) → ∀ e ∈ ts.foldl (grow1 h) ks, e.dep ≤ i + 1 := by
      intro h ts
      induction ts with
      | nil => intro ks _ hk; exact hk
      | cons t ts ih =>
        intro ks hh hk
        refine ih _ hh fun e he => ?_
        unfold grow1 at he
        split at he
        · exact hk e he
        · rcases List.mem_append.mp he with z | z
          · exact hk e z
          · rw [List.mem_singleton] at z
            subst z
            show h.dep + 1 ≤ i + 1
            omega
    rw [grown] at he
    unfold growAt at he
    split at he
    · have := dep_lt i e he
      omega
    · rename_i h hi
      exact fold h _ _ (dep_lt i h (List.mem_of_getElem? hi)) (fun e he => by have := dep_lt i e he; omega) e he
abbrev φ59 : Ph := phD (fun i : List Stk × Stk × Stk => ∃ n, Reach n i.1 i.2.1) (fun i => [.p (eB i.1), .p (eS i.2.1), .p (eS i.2.2)]) (fun i => IsP (roadP (full (stepsB i.1) i.2.1) i.2.2))
def ok59 (T : Tx K mg) : Cal P w K mg base 5 "road_of_stacks" ["patterns", "stack", "other"] φ59 :=
  let q57 := ok57 (P := P) (w := w) (base := base) T
  T.a59.cal fun F => fnG F c59 (fun ds Rd Rn h => by obtain ⟨d, _, rfl, _⟩ := h; rfl) fun cdv A outer st H hG hr ds Rd Rn h => by
    obtain ⟨⟨b, s, o⟩, ⟨n, R⟩, rfl, rfl, rfl⟩ := h
    have R : Reach n b s := R
    obtain ⟨ks, eks⟩ : ∃ ks, ks = full (stepsB b) s := ⟨_, rfl⟩
    have M : Met (stepsB b) s ks := by rw [eks]; exact met_grown _ _ _
    have hroot : (⟨s, none, 0⟩ : Ent) ∈ ks := by rw [eks]; exact root_mem _ _ _
    refine ss_set 3 (d := .dic (ks.map kvP)) (pd_eq (pd_c q57 ⟨(b, s), ⟨n, R⟩, rfl, rfl, rfl⟩ hG hr (ps_cons (pd_var 0) (ps_cons (pd_var 1) ps_nil))) (by rw [eks])) ?_ c59.nd
    have hkey : decide (o ∈ ks.map (·.k)) = true ↔ eS o ∈ (ks.map kvP).map (·.1) := by
      rw [kvP_keys, mem_eS]
      exact decide_eq_true_iff
    show PSs _ _ (tS _ _ ⟨fun _ => IsP (roadP (full (stepsB b) s) o) (.p .none), IsP (roadP (full (stepsB b) s) o), Nn⟩)
    rw [← eks]
    refine ss_ifr (ptc_notInM hr (keyD_S o) hkey (pd_var 2) (pm_d (pd_var 3))) (fun z => ?_) (fun z => ?_)
    · refine ss_ret pd_non fun d hd => ?_
      cases hd
      have z := of_decide_eq_false (nb z)
      show Dd.p .none = .p (roadP ks o)
      unfold roadP
      rw [if_neg z]
    have z := of_decide_eq_true (nb' z)
    obtain ⟨e, he, eo⟩ := List.mem_map.mp z
    have ee : entOf ks o = e := by rw [← eo]; exact entOf_of M.nd he
    have hdep : e.dep ≤ 1001 := by rw [eks] at he; exact dep_lt 1001 e he
    refine ss_setN 4 (T := Is (((List.range 1).map fun j => (chain ks e j).k).map eS)) (pn_lst (xs := [eS o]) (ps_cons (pd_var 2) ps_nil) rfl (by simp) |> fun h => pn_eq h (by rw [← eo]; rfl)) (fun xs hxs => ?_) c59.nd
    cases hxs
    have last : ∀ i, atI (((List.range (i + 1)).map fun j => (chain ks e j).k).map eS) (-1) = some (eS (chain ks e i).k) := fun i => by
      rw [List.range_succ, List.map_append, List.map_append]
      exact atI_last _ _
    refine ss_while (t := fun i => !decide ((chain ks e i).k = s)) (W := fun i => [.d (.p (eB b)), .d (.p (eS s)), .d (.p (eS o)), .d (.dic (ks.map kvP)), .own (((List.range (i + 1)).map fun j => (chain ks e j).k).map eS)]) (m := fun i => e.dep - i) (i0 := 0) (C := fun i => i ≤ e.dep) PassesOwn.never rfl (Nat.zero_le _) (fun i hi => pt_eq (ptc_neD hr (sh_S _) (sh_S s) (pd_ixL (pl_own 4) (pd_neg pd_int) (last i)) (pd_var 1)) (by rw [eqv_S])) (fun i hi ht => ?_) (fun i hi ht => ?_)
    · have hi : i ≤ e.dep := hi
      have hne : (chain ks e i).k ≠ s := of_decide_eq_false (nb ht)
      have hlt : i < e.dep := by
        rcases Nat.lt_or_ge i e.dep with c | c
        · exact c
        · exact absurd ((chain_end M hroot he hi).mpr (by omega)) hne
      obtain ⟨_, hpar, _⟩ := chain_next M (chain_ok M he i hi) hlt
      refine ss_append 4 (xs := ((List.range (i + 1)).map fun j => (chain ks e j).k).map eS) (T := Is (eS (chain ks e (i + 1)).k)) (pd_imp (pd_ixM (kvs := ks.map kvP) (d := eS (chain ks e (i + 1)).k) hr (keyD_S (chain ks e i).k) (List.mem_map.mpr ⟨chain ks e i, (chain_ok M he i hi).mem, show kvP (chain ks e i) = _ by unfold kvP; rw [hpar]⟩) (fun d' hd' => ?_) (pm_d (pd_var 3)) (pd_ixL (pl_own 4) (pd_neg pd_int) (last i))) fun d hd => ⟨_, rfl, hd⟩) (by rw [List.length_map, List.length_map, List.length_range]; omega) (fun y hy => ?_)
      · obtain ⟨e2, he2, q⟩ := List.mem_map.mp hd'
        have q1 : eS e2.k = eS (chain ks e i).k := congrArg Prod.fst q
        have : e2 = chain ks e i := ent_one M.nd he2 (chain_ok M he i hi).mem (eS_inj q1)
        have q2 : (kvP e2).2 = d' := congrArg Prod.snd q
        rw [← q2, this]
        unfold kvP
        rw [hpar]
      · cases hy
        refine ss_nil ⟨i + 1, hlt, ?_, ?_⟩
        · show e.dep - (i + 1) < e.dep - i
          omega
        · show _ = [_, _, _, _, Sl.own (((List.range (i + 1 + 1)).map fun j => (chain ks e j).k).map eS)]
          rw [List.range_succ (n := i + 1), List.map_append, List.map_append]
          rfl
    · have hi : i ≤ e.dep := hi
      have hz : (chain ks e i).k = s := of_decide_eq_true (nb' ht)
      have : i = e.dep := (chain_end M hroot he hi).mp hz
      subst this
      refine ss_ret (pd_tupL T.z_tuple (pn_l (pn_revL (pl_own 4)))) fun d hd => ?_
      cases hd
      show Dd.p _ = .p (roadP ks o)
      unfold roadP roadL
      rw [if_pos z, ee]
      unfold eB
      rw [List.map_reverse]
end
end K62
/-! the readers of patterns, books and roads -/
namespace K62
open PySem PySem.Spec PyProof.Rows L2
def chgB (F : Frm) (c : Vec) : Bool := changeIn F (eV c) && nzV c
def patVal (F : Frm) (p : Stk) : Bool := (decide (2 ≤ p.length) && decide (p.length ≤ 8)) && (p.all (chgB F) && (addsTo p && decide (patBy p = p)))
theorem chg_len {F : Frm} {c : Vec} (h : changeIn F (eV c) = true) : c.length = cellsN F := by
  rw [Bool.and_eq_true, Bool.and_eq_true] at h
  have := (intRow_eV h.1.1).2
  rw [vecOf_eV] at this
  exact this
theorem chgs_box {F : Frm} (g : GF F) {p : Stk} (hne : p ≠ []) (h : p.all (chgB F) = true) : Box (cellsN F) p := by
  refine ⟨hne, fun v hv => ?_, ?_⟩
  · have := List.all_eq_true.mp h v hv
    unfold chgB at this
    rw [Bool.and_eq_true] at this
    exact chg_len this.1
  · have := g.cells
    omega
section
variable {P : Program} {w : World} {K : PySem.W.Frag} {mg : Str → Option Value} {base : Heap}
theorem isT_S (s : Stk) : (eS s).isTuple = true := rfl
theorem le_cast (a b : Nat) : decide ((a : Int) ≤ (b : Int)) = decide (a ≤ b) := by
  by_cases h : a ≤ b
  · rw [decide_eq_true h, decide_eq_true (by omega)]
  · rw [decide_eq_false h, decide_eq_false (by omega)]
abbrev φ60 : Ph := phD (fun i : Frm × Stk => GF i.1) (fun i => [.p (eF i.1), .p (eS i.2)]) (fun i => IsB (patVal i.1 i.2))
def ok60 (T : Tx K mg) : Cal P w K mg base 5 "is_pattern_value" ["frame", "value"] φ60 :=
  let q44 := ok44 (P := P) (w := w) (base := base) T
  let q51 := ok51 (P := P) (w := w) (base := base) T
  let q50 := ok50 (P := P) (w := w) (base := base) T
  T.a60.cal fun F => fnG F c60 (fun ds Rd Rn h => by obtain ⟨d, _, rfl, _⟩ := h; rfl) fun cdv A outer s H hG hr ds Rd Rn h => by
    obtain ⟨⟨F, p⟩, g, rfl, rfl, rfl⟩ := h
    have g : GF F := g
    refine ss_ifr (b := !(decide (2 ≤ p.length) && decide (p.length ≤ 8))) (pt_eq (PW.pt (pwb_or1 (ptb_not1 (pt_b (pd_isi (pd_var 1) (kit_data (eS p)).2.2.2.1 rfl T.z_isinstance rfl T.z_tuple bt_tuple))) fun _ => pwb_oneO (ptb_not1 (ptc_lele (pd_globI rfl T.v_LEAST_KIND) (pd_lenT (xs := p.map eV) T.z_len (pd_var 1)) (pd_globI rfl T.v_MOST_KIND))))) ?_) (fun z => ?_) fun z => ?_
    · rw [isT_S, List.length_map]
      show (!(decide (((2 : Nat) : Int) ≤ _) && decide (_ ≤ ((8 : Nat) : Int)))) = _
      rw [le_cast, le_cast]
    · refine ss_ret pd_bl fun e he => ?_
      cases he
      have z2 := nb z
      show Dd.p (.bool false) = .p (.bool (patVal F p))
      unfold patVal
      rw [z2, Bool.false_and]
    have z2 := nb' z
    have z3 := z2
    rw [Bool.and_eq_true] at z3
    have l2 := of_decide_eq_true z3.1
    have l8 := of_decide_eq_true z3.2
    refine ss_ifr (b := !p.all (chgB F)) (ptb_not1 (pt_b (pd_allN T.z_all (pn_c1 2 c60.nd (src_tup (as := p) (enc := eV) (pd_var 1)) fun x hx _ _ _ _ _ => pd_and (pd_c q44 ⟨(F, eV x), g, rfl, rfl, rfl⟩ hG (hr.mono (by decide)) (ps_cons (pd_var 0) (ps_cons (pd_var 2) ps_nil))) fun _ => pd_one (pd_anyV T.z_any (pd_var 2)))))) (fun y => ?_) fun y => ?_
    · refine ss_ret pd_bl fun e he => ?_
      cases he
      have y2 := nb y
      show Dd.p (.bool false) = .p (.bool (patVal F p))
      unfold patVal
      rw [y2, Bool.false_and, Bool.and_false]
    have y2 := nb' y
    have hne : p ≠ [] := fun e => by rw [e] at l2; simp at l2
    have bx := chgs_box g hne y2
    refine ss_ret (pdp_eq (pd_and (pd_c q51 ⟨(true, p), ⟨_, bx⟩, rfl, rfl, rfl⟩ hG (hr.mono (by decide)) (ps_cons (pd_var 1) ps_nil)) fun _ => pd_one (pdp_eq (pd_eqD hr (sh_S (patBy p)) (sh_S p) (pd_c q50 ⟨(true, p), ⟨bx.rows, by show p.length ≤ 1000; omega⟩, rfl, rfl, rfl⟩ hG (hr.mono (by decide)) (ps_cons (pd_var 1) ps_nil)) (pd_var 1)) (by rw [eqv_S]))) ?_) fun d h => h
    unfold patVal
    rw [z2, y2, Bool.true_and, Bool.true_and]
def bookVal (F : Frm) (b : List Stk) : Bool := decide (b.length ≤ 40) && (b.all (patVal F) && (b.zip (b.drop 1)).all fun x => PySem.W.dataLt (eS x.1) (eS x.2))
theorem cut_from1 {α : Type} {xs : List α} (h : 1 ≤ xs.length) : cutD xs (some (1 : Int)) none = xs.drop 1 := cut_from (l := 1) h
theorem cut1_any {α : Type} {xs : List α} : cutD xs (some (1 : Int)) none = xs.drop 1 := by
  cases xs with
  | nil => rfl
  | cons x xs => exact cut_from1 (by simp)
theorem ne_none_S (s : Stk) : eS s ≠ .none := fun h => by cases h
abbrev φ61 : Ph := phD (fun i : Frm × List Stk => GF i.1) (fun i => [.p (eF i.1), .p (eB i.2)]) (fun i => IsB (bookVal i.1 i.2))
def ok61 (T : Tx K mg) : Cal P w K mg base 6 "is_pattern_book_value" ["frame", "value"] φ61 :=
  let q60 := ok60 (P := P) (w := w) (base := base) T
  T.a61.cal fun F => fnG F c61 (fun ds Rd Rn h => by obtain ⟨d, _, rfl, _⟩ := h; rfl) fun cdv A outer s H hG hr ds Rd Rn h => by
    obtain ⟨⟨F, b⟩, g, rfl, rfl, rfl⟩ := h
    have g : GF F := g
    refine ss_ifr (b := !decide (b.length ≤ 40)) (pt_eq (PW.pt (pwb_or1 (ptb_not1 (pt_b (pd_isi (pd_var 1) (kit_data (eB b)).2.2.2.1 rfl T.z_isinstance rfl T.z_tuple bt_tuple))) fun _ => pwb_oneO (ptc_gt (pd_lenT (xs := b.map eS) T.z_len (pd_var 1)) (pd_globI rfl T.v_MOST_PATTERNS)))) ?_) (fun z => ?_) fun z => ?_
    · rw [List.length_map]
      show (!true || decide (((40 : Nat) : Int) < _)) = _
      by_cases h : b.length ≤ 40
      · rw [decide_eq_true h, decide_eq_false (by omega)]; rfl
      · rw [decide_eq_false h, decide_eq_true (by omega)]; rfl
    · refine ss_ret pd_bl fun e he => ?_
      cases he
      have z2 := nb z
      show Dd.p (.bool false) = .p (.bool (bookVal F b))
      unfold bookVal
      rw [z2, Bool.false_and]
    have z2 := nb' z
    refine ss_ifr (b := !b.all (patVal F)) (ptb_not1 (pt_b (pd_allN T.z_all (pn_c1 2 c61.nd (src_tup (as := b) (enc := eS) (pd_var 1)) fun x hx _ _ _ _ _ => pd_c q60 ⟨(F, x), g, rfl, rfl, rfl⟩ hG hr (ps_cons (pd_var 0) (ps_cons (pd_var 2) ps_nil)))))) (fun y => ?_) fun y => ?_
    · refine ss_ret pd_bl fun e he => ?_
      cases he
      have y2 := nb y
      show Dd.p (.bool false) = .p (.bool (bookVal F b))
      unfold bookVal
      rw [y2, Bool.false_and, Bool.and_false]
    have y2 := nb' y
    refine ss_ret (pdp_eq (pd_allN (as := b.zip (b.drop 1)) T.z_all (pn_c2 3 4 c61.nd (src_zip (as := b) (bs := b.drop 1) (enc := eS) (enc2 := eS) rfl T.z_zip (pd_var 1) (pdp_eq (pd_slT (pd_var 1) (pod_some pd_int) pod_none) (by rw [cut1_any, List.map_drop]))) fun x hx _ _ _ _ _ => pd_ltD (x := eS x.1) (y := eS x.2) hr (alike_S _ _) (ne_none_S _) (by have := depth_S x.1; omega) (pd_var 3) (pd_var 4))) ?_) fun d h => h
    unfold bookVal
    rw [z2, y2, Bool.true_and, Bool.true_and]
def roadVal (F : Frm) (b : List Stk) (d : PyData) : Bool := d.isTuple && (!decide ((itemsD d).length = 0) && ((itemsD d).all (stackVal F) && (((itemsD d).map stkOf).zip (((itemsD d).map stkOf).drop 1)).all fun x => isStepB b x.1 x.2))
theorem stackVal_eS {F : Frm} {d : PyData} (h : stackVal F d = true) : d = eS (stkOf d) ∧ (stkOf d).length ≤ 8 := by
  rw [Bool.and_eq_true, Bool.and_eq_true, Bool.and_eq_true, Bool.and_eq_true] at h
  obtain ⟨xs, rfl⟩ := isTuple_tup h.1
  have e1 : xs = (xs.map vecOf).map eV := (stk_items h.2.2.1).1
  have l8 := of_decide_eq_true h.2.1.2
  refine ⟨?_, ?_⟩
  · show PyData.tuple xs = .tuple ((xs.map vecOf).map eV)
    rw [← e1]
  · show (xs.map vecOf).length ≤ 8
    rw [List.length_map]
    have : ((xs.length : Nat) : Int) ≤ 8 := l8
    omega
theorem stackVals_eS {F : Frm} : ∀ {ds : List PyData}, ds.all (stackVal F) = true → ds = (ds.map stkOf).map eS
  | [], _ => rfl
  | d :: ds, h => by
    rw [List.all_cons, Bool.and_eq_true] at h
    rw [List.map_cons, List.map_cons, ← (stackVal_eS h.1).1, ← stackVals_eS h.2]
abbrev φ62 : Ph := phD (fun i : Frm × List Stk × PyData => GF i.1) (fun i => [.p (eF i.1), .p (eB i.2.1), .p i.2.2]) (fun i => IsB (roadVal i.1 i.2.1 i.2.2))
def ok62 (T : Tx K mg) : Cal P w K mg base 7 "is_road_of_stacks" ["frame", "patterns", "value"] φ62 :=
  let q40 := ok40 (P := P) (w := w) (base := base) T
  let q56 := ok56 (P := P) (w := w) (base := base) T
  T.a62.cal fun F => fnG F c62 (fun ds Rd Rn h => by obtain ⟨d, _, rfl, _⟩ := h; rfl) fun cdv A outer s H hG hr ds Rd Rn h => by
    obtain ⟨⟨F, b, d⟩, g, rfl, rfl, rfl⟩ := h
    have g : GF F := g
    refine ss_ifr (b := !(d.isTuple && (!decide ((itemsD d).length = 0) && (itemsD d).all (stackVal F)))) (pt_eq (PW.pt (pwb_or1 (y := decide ((itemsD d).length = 0) || !(itemsD d).all (stackVal F)) (ptb_not1 (pt_b (pd_isi (pd_var 2) (kit_data d).2.2.2.1 rfl T.z_isinstance rfl T.z_tuple bt_tuple))) fun h1 => ?_)) ?_) (fun z => ?_) fun z => ?_
    · obtain ⟨xs, rfl⟩ := isTuple_tup (nb' h1)
      exact pwb_or1 (pt_eq (ptc_eqI hr (pd_lenT T.z_len (pd_var 2)) pd_int) (dec_cast xs.length 0)) fun _ => pwb_oneO (ptb_not1 (pt_b (pd_allN T.z_all (pn_c1 3 c62.nd (src_tup (as := xs) (enc := id) (pdp_eq (pd_var 2) (by rw [List.map_id]))) fun x hx _ _ _ _ _ => pd_c q40 ⟨(F, x), g, rfl, rfl, rfl⟩ hG hr (ps_cons (pd_var 0) (ps_cons (pd_var 3) ps_nil))))))
    · simp only [Bool.not_and, Bool.not_not]
    · refine ss_ret pd_bl fun e he => ?_
      cases he
      have z2 := nb z
      show Dd.p (.bool false) = .p (.bool (roadVal F b d))
      unfold roadVal
      rw [← Bool.and_assoc, ← Bool.and_assoc]
      rw [← Bool.and_assoc] at z2
      rw [z2, Bool.false_and]
    have z2 := nb' z
    have z3 := z2
    rw [Bool.and_eq_true, Bool.and_eq_true] at z3
    obtain ⟨xs, rfl⟩ := isTuple_tup z3.1
    have e1 : xs = (xs.map stkOf).map eS := stackVals_eS z3.2.2
    refine ss_ret (pdp_eq (pd_allN (as := (xs.map stkOf).zip ((xs.map stkOf).drop 1)) T.z_all (pn_c2 3 4 c62.nd (src_zip (as := xs.map stkOf) (bs := (xs.map stkOf).drop 1) (enc := eS) (enc2 := eS) rfl T.z_zip (pdp_eq (pd_var 2) (congrArg PyData.tuple e1)) (pdp_eq (pd_slT (xs := xs) (pd_var 2) (pod_some pd_int) pod_none) (by rw [cut1_any, List.map_drop, ← e1]))) fun x hx _ _ _ _ _ => pd_c q56 ⟨(b, x.1, x.2), ?_, rfl, rfl, rfl⟩ hG (hr.mono (by decide)) (ps_cons (pd_var 1) (ps_cons (pd_var 3) (ps_cons (pd_var 4) ps_nil))))) ?_) fun d h => h
    · have h1 : x.1 ∈ xs.map stkOf := (List.of_mem_zip (a := x.1) (b := x.2) hx).1
      obtain ⟨d, hd, ed⟩ := List.mem_map.mp h1
      have := (stackVal_eS (List.all_eq_true.mp z3.2.2 d hd)).2
      show x.1.length ≤ 1000
      rw [← ed]
      omega
    · show _ = PyData.bool (roadVal F b (.tuple xs))
      unfold roadVal
      rw [← Bool.and_assoc, ← Bool.and_assoc]
      rw [← Bool.and_assoc] at z2
      rw [z2, Bool.true_and]
      rfl
end
end K62
/-! the entries -/
namespace K62
open PySem PySem.Spec PyProof.Rows L2
theorem ss_do {X : Cx} {e : Expr} {rest : List Stmt} {pos : Pos} {Γ : List Sl} {κ : Pw} {p : Po} {S : Dd → Prop} (he : PE X e (tD κ Γ S)) (hr : PSs X rest (tS κ Γ p)) (hs : swapsWith e none pos.line X.env = pure false := by rfl) : PSs X (.Expr e pos :: rest) (tS κ Γ p) :=
  ss_then (C := fun Γ' => Γ' = Γ) (ps_expr he hs) (fun Γ' e => e ▸ hr) fun D σ H ⟨B0, H0, B, x0, E, q1, q2, q3⟩ => ⟨H0, B, E, fun v d B' H' x1 s r => q1 _ σ B' H' rfl (x0.trans x1) (E.ext x1)⟩
theorem paired_rev {α β : Type} {R : α → β → Prop} : ∀ {xs : List α} {ys : List β}, Paired R xs ys → Paired R xs.reverse ys.reverse
  | _, _, .nil => .nil
  | _, _, .cons h t => by
    rw [List.reverse_cons, List.reverse_cons]
    exact paired_snoc (paired_rev t) h
abbrev revG : {α : Type} → List α → List α := fun xs => xs.reverse
theorem kwb_of {K : PySem.W.Frag} {x qual : Str} {st : Stmt} {f : Addr} {fd : FuncData} {ps ks : List Str} (F : Fun K x qual st f fd)
    (h : ∀ (kV doc pm : Value) (an : Option Addr) (cdv ct : Value) (us : List Value), us.length = ks.length → bindArgs (PySem.W.fnOf x qual (defArgs st) (defBody st) (defScope st) .none kV doc pm an cdv ct) ⟨[], ks.zip us⟩ = pure (ps.zip us.reverse)) : KwB K fd ps ks revG := by
  obtain ⟨oc, od, kV, doc, pm, an, cdv, ct, osl, rfl, lk, hcd⟩ := F.ex
  exact ⟨fun s ws hl => .of_eq (h kV doc pm an cdv ct ws hl), fun r => paired_rev r⟩
section
variable {X : Cx} {e a b c : Expr} {kws : List Keyword} {pos p : Pos} {Γ : List Sl} {k : Nat} {P : Program} {w : World} {K : PySem.W.Frag} {mg : Str → Option Value} {base : Heap} {x : Str} {ps ks : List Str} {φ : Ph} {es' : List Dd} {Rd : Dd → Prop} {Rn : List PyData → Prop}
theorem pd_ck (c : Cal P w K mg base k x ps φ) (hb : KwB K c.fd ps ks revG) (hn : es'.length = ks.length) (hφ : φ es'.reverse Rd Nn) (hG : X.A.guards = some []) (hr : Room k X.A) (hkw : PK X kws (tA (pwOf X) Γ (Is es'))) (h1 : X.prog = P := by rfl) (h2 : X.w = w := by rfl) (h3 : X.K = K := by rfl) (h4 : X.mg = mg := by rfl) (h5 : X.base = base := by rfl) (hg : Gl X x := by rfl)
    (hall : (backToKw pos (keywordEach kws X.env)).all (·.1.isSome) = true := by rfl) (hks : (backToKw pos (keywordEach kws X.env)).filterMap (·.1) = ks := by rfl) (hdb : (x == ("__debug__" : Str)) = false := by decide)
    (hpl : ((backTo pos (starEach [] X.env)).any (·.1) || (backToKw pos (keywordEach kws X.env)).any (·.1.isNone)) = false := by rfl) : PE X (.Call (.Name x p) [] kws pos) (tD (pwOf X) Γ Rd) := by
  subst h1 h2 h3 h4 h5
  exact pd_callk (g := revG) ⟨c.f, c.fd, c.F, c.m, c.kp, c.b⟩ hb (fun r => paired_rev r) hn hφ hG hr hg hkw hall hks hdb hpl
theorem pn_ck (c : Cal P w K mg base k x ps φ) (hb : KwB K c.fd ps ks revG) (hn : es'.length = ks.length) (hφ : φ es'.reverse Nd Rn) (hG : X.A.guards = some []) (hr : Room k X.A) (hkw : PK X kws (tA (pwOf X) Γ (Is es'))) (h1 : X.prog = P := by rfl) (h2 : X.w = w := by rfl) (h3 : X.K = K := by rfl) (h4 : X.mg = mg := by rfl) (h5 : X.base = base := by rfl) (hg : Gl X x := by rfl)
    (hall : (backToKw pos (keywordEach kws X.env)).all (·.1.isSome) = true := by rfl) (hks : (backToKw pos (keywordEach kws X.env)).filterMap (·.1) = ks := by rfl) (hdb : (x == ("__debug__" : Str)) = false := by decide)
    (hpl : ((backTo pos (starEach [] X.env)).any (·.1) || (backToKw pos (keywordEach kws X.env)).any (·.1.isNone)) = false := by rfl) : PE X (.Call (.Name x p) [] kws pos) (tN (pwOf X) Γ Rn) := by
  subst h1 h2 h3 h4 h5
  exact pn_callk (g := revG) ⟨c.f, c.fd, c.F, c.m, c.kp, c.b⟩ hb (fun r => paired_rev r) hn hφ hG hr hg hkw hall hks hdb hpl
end
section
variable {P : Program} {w : World} {K : PySem.W.Frag} {mg : Str → Option Value} {base : Heap}
abbrev φ63 : Ph := phD (fun i : Frm × Stk => GF i.1 ∧ patVal i.1 i.2 = true) (fun i => [.p (eF i.1), .p (eS i.2)]) (fun _ => IsP .none)
def ok63 (T : Tx K mg) : Cal P w K mg base 6 "want_pattern" ["frame", "value"] φ63 :=
  let q60 := ok60 (P := P) (w := w) (base := base) T
  T.a63.cal fun F => fnG F c63 (fun ds Rd Rn h => by obtain ⟨d, _, rfl, _⟩ := h; rfl) fun cdv A outer s H hG hr ds Rd Rn h => by
    obtain ⟨⟨F, d⟩, ⟨g, hv⟩, rfl, rfl, rfl⟩ := h
    exact ss_ifr (ptb_not1 (pt_b (pd_c q60 ⟨(F, d), g, rfl, rfl, rfl⟩ hG hr (ps_cons (pd_var 0) (ps_cons (pd_var 1) ps_nil))))) (fun z => by rw [hv] at z; cases z) fun _ => ss_nil rfl
abbrev φ64 : Ph := phD (fun i : Frm × List Stk => GF i.1 ∧ bookVal i.1 i.2 = true) (fun i => [.p (eF i.1), .p (eB i.2)]) (fun _ => IsP .none)
def ok64 (T : Tx K mg) : Cal P w K mg base 7 "want_patterns" ["frame", "value"] φ64 :=
  let q61 := ok61 (P := P) (w := w) (base := base) T
  T.a64.cal fun F => fnG F c64 (fun ds Rd Rn h => by obtain ⟨d, _, rfl, _⟩ := h; rfl) fun cdv A outer s H hG hr ds Rd Rn h => by
    obtain ⟨⟨F, d⟩, ⟨g, hv⟩, rfl, rfl, rfl⟩ := h
    exact ss_ifr (ptb_not1 (pt_b (pd_c q61 ⟨(F, d), g, rfl, rfl, rfl⟩ hG hr (ps_cons (pd_var 0) (ps_cons (pd_var 1) ps_nil))))) (fun z => by rw [hv] at z; cases z) fun _ => ss_nil rfl
abbrev φ65 : Ph := phD (fun i : Frm × Stk => GF i.1) (fun i => [.p (eF i.1), .p (eS i.2)]) (fun i => IsB (patVal i.1 i.2))
def ok65 (T : Tx K mg) : Cal P w K mg base 6 "is_pattern" ["frame", "value"] φ65 :=
  let q28 := ok28 (P := P) (w := w) (base := base) T
  let q60 := ok60 (P := P) (w := w) (base := base) T
  T.a65.cal fun F => fnG F c65 (fun ds Rd Rn h => by obtain ⟨d, _, rfl, _⟩ := h; rfl) fun cdv A outer s H hG hr ds Rd Rn h => by
    obtain ⟨⟨F, d⟩, g, rfl, rfl, rfl⟩ := h
    exact ss_do (pd_c q28 ⟨F, g, rfl, rfl, rfl⟩ hG hr (ps_cons (pd_var 0) ps_nil)) (ss_ret (pd_c q60 ⟨(F, d), g, rfl, rfl, rfl⟩ hG hr (ps_cons (pd_var 0) (ps_cons (pd_var 1) ps_nil))) fun d h => h)
abbrev φ66 : Ph := phD (fun i : Frm × List Stk => GF i.1) (fun i => [.p (eF i.1), .p (eB i.2)]) (fun i => IsB (bookVal i.1 i.2))
def ok66 (T : Tx K mg) : Cal P w K mg base 7 "is_pattern_book" ["frame", "value"] φ66 :=
  let q28 := ok28 (P := P) (w := w) (base := base) T
  let q61 := ok61 (P := P) (w := w) (base := base) T
  T.a66.cal fun F => fnG F c66 (fun ds Rd Rn h => by obtain ⟨d, _, rfl, _⟩ := h; rfl) fun cdv A outer s H hG hr ds Rd Rn h => by
    obtain ⟨⟨F, d⟩, g, rfl, rfl, rfl⟩ := h
    exact ss_do (pd_c q28 ⟨F, g, rfl, rfl, rfl⟩ hG (hr.mono (by decide)) (ps_cons (pd_var 0) ps_nil)) (ss_ret (pd_c q61 ⟨(F, d), g, rfl, rfl, rfl⟩ hG hr (ps_cons (pd_var 0) (ps_cons (pd_var 1) ps_nil))) fun d h => h)
structure PatIn (F : Frm) (cs : List Vec) : Prop where
  g : GF F
  chg : ∀ c ∈ cs, changeIn F (eV c) = true
  sz : cs.length ≤ 1000
  few : 2 ≤ (cs.filter nzV).length ∧ (cs.filter nzV).length ≤ 8
  adds : addsTo (cs.filter nzV) = true
abbrev φ67 : Ph := phD (fun i : Frm × Bool × List Vec => PatIn i.1 i.2.2) (fun i => [.p (eF i.1), .p (seqD i.2.1 i.2.2)]) (fun i => IsP (eS (patBy (i.2.2.filter nzV))))
def ok67 (T : Tx K mg) : Cal P w K mg base 6 "pattern_of" ["frame", "changes"] φ67 :=
  let q28 := ok28 (P := P) (w := w) (base := base) T
  let q12 := ok12 (P := P) (w := w) (base := base) T
  let q44 := ok44 (P := P) (w := w) (base := base) T
  let q51 := ok51 (P := P) (w := w) (base := base) T
  let q50 := ok50 (P := P) (w := w) (base := base) T
  T.a67.cal fun F => fnG F c67 (fun ds Rd Rn h => by obtain ⟨d, _, rfl, _⟩ := h; rfl) fun cdv A outer s H hG hr ds Rd Rn h => by
    obtain ⟨⟨F, t, cs⟩, I, rfl, rfl, rfl⟩ := h
    have I : PatIn F cs := I
    have hseq : ((seqD t cs).isList || (seqD t cs).isTuple) = true := by cases t <;> rfl
    refine ss_do (pd_c q28 ⟨F, I.g, rfl, rfl, rfl⟩ hG hr (ps_cons (pd_var 0) ps_nil)) (ss_ifr (b := false) (pt_eq (PW.pt (pwb_or1 (ptb_not1 (pt_b (pd_c q12 ⟨seqD t cs, trivial, rfl, rfl, rfl⟩ hG (hr.mono (by decide)) (ps_cons (pd_var 1) ps_nil)))) fun _ => pwb_oneO (ptb_not1 (pt_b (pd_allN (f := fun c => changeIn F (eV c)) T.z_all (pn_c1 3 c67.nd (src_seq (t := t) (bs := cs) (pd_var 1)) fun x hx _ _ _ _ _ => pd_c q44 ⟨(F, eV x), I.g, rfl, rfl, rfl⟩ hG (hr.mono (by decide)) (ps_cons (pd_var 0) (ps_cons (pd_var 3) ps_nil)))))))) ?_) (fun z => by cases z) fun _ => ?_)
    · rw [hseq, List.all_eq_true.mpr I.chg]
      rfl
    refine ss_lc1T (f := eV) (t := nzV) (as := cs) 2 3 c67.nd (src_seq (t := t) (pd_var 1)) (fun v hv _ _ _ _ _ => pt_b (pd_anyV T.z_any (pd_var 3))) (fun v hv _ _ _ _ _ _ => pd_var 3) (ss_freeze 2 ?_)
    have bx : Box (cellsN F) (cs.filter nzV) := by
      refine ⟨fun e => ?_, fun v hv => chg_len (I.chg v (List.mem_filter.mp hv).1), ?_⟩
      · have := I.few.1
        rw [e] at this
        simp at this
      · have := I.g.cells
        omega
    refine ss_ifr (b := false) (pt_eq (PW.pt (pwb_or1 (ptb_not1 (ptc_lele (pd_globI rfl T.v_LEAST_KIND) (pdp_eq (pd_lenL T.z_len (pd_l (pd_var 2))) (by rw [List.length_map])) (pd_globI rfl T.v_MOST_KIND))) fun _ => pwb_oneO (ptb_not1 (pt_b (pd_c q51 ⟨(false, cs.filter nzV), ⟨_, bx⟩, rfl, rfl, rfl⟩ hG (hr.mono (by decide)) (ps_cons (pd_var 2) ps_nil)))))) ?_) (fun z => by cases z) fun _ => ?_
    · have h1 := I.few
      rw [I.adds, decide_eq_true (by omega), decide_eq_true (by omega)]
      rfl
    · have h1 := I.few
      exact ss_ret (pd_c q50 ⟨(false, cs.filter nzV), ⟨bx.rows, by show (cs.filter nzV).length ≤ 1000; omega⟩, rfl, rfl, rfl⟩ hG (hr.mono (by decide)) (ps_cons (pd_var 2) ps_nil)) fun d h => h
abbrev φ68 : Ph := phD (fun i : Frm × Stk => GF i.1 ∧ patVal i.1 i.2 = true) (fun i => [.p (eF i.1), .p (eS i.2)]) (fun i => IsP (.tuple [eS (i.2.map posV), eS (i.2.map fun v => posV (negV v))]))
def ok68 (T : Tx K mg) : Cal P w K mg base 7 "pattern_ends" ["frame", "pattern"] φ68 :=
  let q28 := ok28 (P := P) (w := w) (base := base) T
  let q63 := ok63 (P := P) (w := w) (base := base) T
  let q52 := ok52 (P := P) (w := w) (base := base) T
  T.a68.cal fun F => fnG F c68 (fun ds Rd Rn h => by obtain ⟨d, _, rfl, _⟩ := h; rfl) fun cdv A outer s H hG hr ds Rd Rn h => by
    obtain ⟨⟨F, d⟩, ⟨g, hv⟩, rfl, rfl, rfl⟩ := h
    exact ss_do (pd_c q28 ⟨F, g, rfl, rfl, rfl⟩ hG (hr.mono (by decide)) (ps_cons (pd_var 0) ps_nil)) (ss_do (pd_c q63 ⟨(F, d), ⟨g, hv⟩, rfl, rfl, rfl⟩ hG hr (ps_cons (pd_var 0) (ps_cons (pd_var 1) ps_nil))) (ss_ret (pd_c q52 ⟨d, trivial, rfl, rfl, rfl⟩ hG (hr.mono (by decide)) (ps_cons (pd_var 1) ps_nil)) fun d h => h))
structure Put (F : Frm) (b : List Stk) (s : Stk) : Prop where
  g : GF F
  b : bookVal F b = true
  s : stackVal F (eS s) = true
abbrev φ69 : Ph := phD (fun i : Frm × List Stk × Stk => Put i.1 i.2.1 i.2.2) (fun i => [.p (eF i.1), .p (eB i.2.1), .p (eS i.2.2)]) (fun _ => IsP .none)
def ok69 (T : Tx K mg) : Cal P w K mg base 8 "want_put" ["frame", "patterns", "stack"] φ69 :=
  let q28 := ok28 (P := P) (w := w) (base := base) T
  let q64 := ok64 (P := P) (w := w) (base := base) T
  let q41 := ok41 (P := P) (w := w) (base := base) T
  T.a69.cal fun F => fnG F c69 (fun ds Rd Rn h => by obtain ⟨d, _, rfl, _⟩ := h; rfl) fun cdv A outer s H hG hr ds Rd Rn h => by
    obtain ⟨⟨F, b, s⟩, I, rfl, rfl, rfl⟩ := h
    have I : Put F b s := I
    exact ss_do (pd_c q28 ⟨F, I.g, rfl, rfl, rfl⟩ hG (hr.mono (by decide)) (ps_cons (pd_var 0) ps_nil)) (ss_do (pd_c q64 ⟨(F, b), ⟨I.g, I.b⟩, rfl, rfl, rfl⟩ hG hr (ps_cons (pd_var 0) (ps_cons (pd_var 1) ps_nil))) (ss_do (pd_c q41 ⟨(F, eS s), ⟨I.g, I.s⟩, rfl, rfl, rfl⟩ hG hr (ps_cons (pd_var 0) (ps_cons (pd_var 2) ps_nil))) (ss_nil rfl)))
abbrev φ70 : Ph := phN (fun i : Frm × List Stk × Stk => Put i.1 i.2.1 i.2.2 ∧ ∃ n, StepC n i.2.1 i.2.2) (fun i => [.p (eF i.1), .p (eB i.2.1), .p (eS i.2.2)]) (fun i => Is ((stepsB i.2.1 i.2.2).map eS))
theorem nodup_len {α : Type} [DecidableEq α] : ∀ {l m : List α}, l.Nodup → (∀ x ∈ l, x ∈ m) → l.length ≤ m.length
  | [], _, _, _ => Nat.zero_le _
  | x :: l, m, hn, h => by
    rw [List.nodup_cons] at hn
    have h1 : x ∈ m := h x List.mem_cons_self
    have ih := nodup_len (l := l) (m := m.erase x) hn.2 fun y hy => (List.mem_erase_of_ne (fun e : y = x => hn.1 (by rw [← e]; exact hy))).mpr (h y (List.mem_cons_of_mem _ hy))
    rw [List.length_erase_of_mem h1] at ih
    have h2 := List.length_pos_of_mem h1
    rw [List.length_cons]
    omega
theorem steps_few {n : Nat} {b : List Stk} {s : Stk} (C : StepC n b s) : (stepsB b s).length ≤ 24 := by
  have h1 := pkgFound_few C
  have h2 : (stepsB b s).length ≤ (pkgFound b s).length := by
    exact nodup_len (setS_nodup _) fun t ht => setS_mem.mp ht
  omega
def ok70 (T : Tx K mg) : Cal P w K mg base 9 "stack_steps" ["frame", "patterns", "stack"] φ70 :=
  let q69 := ok69 (P := P) (w := w) (base := base) T
  let q55 := ok55 (P := P) (w := w) (base := base) T
  let q13 := ok13 (P := P) (w := w) (base := base) T
  T.a70.cal fun F => fnG F c70 (fun ds Rd Rn h => by obtain ⟨d, _, rfl, _⟩ := h; rfl) fun cdv A outer s H hG hr ds Rd Rn h => by
    obtain ⟨⟨F, b, s⟩, ⟨I, n, C⟩, rfl, rfl, rfl⟩ := h
    have I : Put F b s := I
    have C : StepC n b s := C
    refine ss_do (pd_c q69 ⟨(F, b, s), I, rfl, rfl, rfl⟩ hG hr (ps_cons (pd_var 0) (ps_cons (pd_var 1) (ps_cons (pd_var 2) ps_nil)))) (ss_setN 3 (pn_c q55 ⟨(b, s), ⟨n, C⟩, rfl, rfl, rfl⟩ hG (hr.mono (by decide)) (ps_cons (pd_var 1) (ps_cons (pd_var 2) ps_nil))) (fun ys hy => ?_) c70.nd)
    cases hy
    refine ss_do (pd_c q13 ⟨("stacks", 2000, ((setS (pkgFound b s)).length : Int)), ?_, rfl, rfl, rfl⟩ hG (hr.mono (by decide)) (ps_cons pd_str (ps_cons (pd_globI rfl T.v_MOST_STACKS) (ps_cons (pdp_eq (pd_lenL T.z_len (pl_own 3)) (by rw [List.length_map])) ps_nil)))) (ss_retO 3 rfl)
    have := steps_few C
    show ((setS (pkgFound b s)).length : Int) ≤ 2000
    unfold stepsB at this
    omega
abbrev φ71 : Ph := phN (fun i : Frm × List Stk × Stk => Put i.1 i.2.1 i.2.2 ∧ ∃ n, Reach n i.2.1 i.2.2) (fun i => [.p (eF i.1), .p (eB i.2.1), .p (eS i.2.2)]) (fun i => Is ((sortS ((full (stepsB i.2.1) i.2.2).map (·.k))).map eS))
def ok71 (T : Tx K mg) : Cal P w K mg base 9 "closed_stacks" ["frame", "patterns", "stack"] φ71 :=
  let q69 := ok69 (P := P) (w := w) (base := base) T
  let q58 := ok58 (P := P) (w := w) (base := base) T
  T.a71.cal fun F => fnG F c71 (fun ds Rd Rn h => by obtain ⟨d, _, rfl, _⟩ := h; rfl) fun cdv A outer s H hG hr ds Rd Rn h => by
    obtain ⟨⟨F, b, s⟩, ⟨I, n, C⟩, rfl, rfl, rfl⟩ := h
    have I : Put F b s := I
    have C : Reach n b s := C
    exact ss_do (pd_c q69 ⟨(F, b, s), I, rfl, rfl, rfl⟩ hG hr (ps_cons (pd_var 0) (ps_cons (pd_var 1) (ps_cons (pd_var 2) ps_nil)))) (ss_retN (pn_c q58 ⟨(b, s), ⟨n, C⟩, rfl, rfl, rfl⟩ hG (hr.mono (by decide)) (ps_cons (pd_var 1) (ps_cons (pd_var 2) ps_nil))) fun d h => h)
abbrev φ72 : Ph := phD (fun i : Frm × List Stk × Stk × Stk => Put i.1 i.2.1 i.2.2.1 ∧ stackVal i.1 (eS i.2.2.2) = true ∧ i.2.2.2.length = i.2.2.1.length ∧ ∃ n, Reach n i.2.1 i.2.2.1) (fun i => [.p (eF i.1), .p (eB i.2.1), .p (eS i.2.2.1), .p (eS i.2.2.2)]) (fun i => IsP (roadP (full (stepsB i.2.1) i.2.2.1) i.2.2.2))
def ok72 (T : Tx K mg) : Cal P w K mg base 9 "stack_road" ["frame", "patterns", "stack", "other"] φ72 :=
  let q69 := ok69 (P := P) (w := w) (base := base) T
  let q40 := ok40 (P := P) (w := w) (base := base) T
  let q59 := ok59 (P := P) (w := w) (base := base) T
  T.a72.cal fun F => fnG F c72 (fun ds Rd Rn h => by obtain ⟨d, _, rfl, _⟩ := h; rfl) fun cdv A outer s H hG hr ds Rd Rn h => by
    obtain ⟨⟨F, b, s, o⟩, ⟨I, ho, hl, n, C⟩, rfl, rfl, rfl⟩ := h
    have I : Put F b s := I
    have C : Reach n b s := C
    have hl : o.length = s.length := hl
    have ho : stackVal F (eS o) = true := ho
    refine ss_do (pd_c q69 ⟨(F, b, s), I, rfl, rfl, rfl⟩ hG hr (ps_cons (pd_var 0) (ps_cons (pd_var 1) (ps_cons (pd_var 2) ps_nil)))) (ss_ifr (b := false) (pt_eq (PW.pt (pwb_or1 (ptb_not1 (pt_b (pd_c q40 ⟨(F, eS o), I.g, rfl, rfl, rfl⟩ hG (hr.mono (by decide)) (ps_cons (pd_var 0) (ps_cons (pd_var 3) ps_nil))))) fun _ => pwb_oneO (ptc_neI hr (pd_lenT (xs := o.map eV) T.z_len (pd_var 3)) (pd_lenT (xs := s.map eV) T.z_len (pd_var 2))))) ?_) (fun z => by cases z) fun _ => ss_ret (pd_c q59 ⟨(b, s, o), ⟨n, C⟩, rfl, rfl, rfl⟩ hG (hr.mono (by decide)) (ps_cons (pd_var 1) (ps_cons (pd_var 2) (ps_cons (pd_var 3) ps_nil)))) fun d h => h)
    show (!stackVal F (eS o) || _) = false
    rw [ho, List.length_map, List.length_map, hl, decide_eq_true rfl]
    rfl
abbrev φ73 : Ph := phD (fun i : Frm × List Stk × PyData => GF i.1 ∧ bookVal i.1 i.2.1 = true) (fun i => [.p (eF i.1), .p (eB i.2.1), .p i.2.2]) (fun i => IsB (roadVal i.1 i.2.1 i.2.2))
def ok73 (T : Tx K mg) : Cal P w K mg base 8 "is_stack_road" ["frame", "patterns", "value"] φ73 :=
  let q28 := ok28 (P := P) (w := w) (base := base) T
  let q64 := ok64 (P := P) (w := w) (base := base) T
  let q62 := ok62 (P := P) (w := w) (base := base) T
  T.a73.cal fun F => fnG F c73 (fun ds Rd Rn h => by obtain ⟨d, _, rfl, _⟩ := h; rfl) fun cdv A outer s H hG hr ds Rd Rn h => by
    obtain ⟨⟨F, b, d⟩, ⟨g, hb⟩, rfl, rfl, rfl⟩ := h
    exact ss_do (pd_c q28 ⟨F, g, rfl, rfl, rfl⟩ hG (hr.mono (by decide)) (ps_cons (pd_var 0) ps_nil)) (ss_do (pd_c q64 ⟨(F, b), ⟨g, hb⟩, rfl, rfl, rfl⟩ hG hr (ps_cons (pd_var 0) (ps_cons (pd_var 1) ps_nil))) (ss_ret (pd_c q62 ⟨(F, b, d), g, rfl, rfl, rfl⟩ hG hr (ps_cons (pd_var 0) (ps_cons (pd_var 1) (ps_cons (pd_var 2) ps_nil)))) fun d h => h))
theorem kwb67 (T : Tx K mg) : KwB K (ok67 (P := P) (w := w) (base := base) T).fd ["frame", "changes"] ["changes", "frame"] revG := kwb_of T.a67.F fun _ _ _ _ _ _ us hl => match us, hl with | [_, _], _ => rfl
theorem kwb70 (T : Tx K mg) : KwB K (ok70 (P := P) (w := w) (base := base) T).fd ["frame", "patterns", "stack"] ["stack", "patterns", "frame"] revG := kwb_of T.a70.F fun _ _ _ _ _ _ us hl => match us, hl with | [_, _, _], _ => rfl
theorem kwb71 (T : Tx K mg) : KwB K (ok71 (P := P) (w := w) (base := base) T).fd ["frame", "patterns", "stack"] ["stack", "patterns", "frame"] revG := kwb_of T.a71.F fun _ _ _ _ _ _ us hl => match us, hl with | [_, _, _], _ => rfl
theorem kwb73 (T : Tx K mg) : KwB K (ok73 (P := P) (w := w) (base := base) T).fd ["frame", "patterns", "value"] ["value", "patterns", "frame"] revG := kwb_of T.a73.F fun _ _ _ _ _ _ us hl => match us, hl with | [_, _, _], _ => rfl
end
end K62
/-! the pot, the draws, the frame -/
namespace K62
open PySem PySem.Spec PyProof.Rows L2
section
variable {X : Cx} {e a b c iter : Expr} {es : List Expr} {pos p p1 : Pos} {Γ : List Sl} {κ : Pw} {k : Nat} {R : Int → Prop} {j : Int} {y : Str} {ι : Type} {as : List ι}
theorem pd_eqIS (hr : Room k X.A) (ha : PE X a (tD (pwOf X) Γ (IntP R))) (hb : PE X b (tD (pwOf X) Γ (IsI j))) : PE X (.Compare a [.Eq] [b] pos) (tD (pwOf X) Γ (fun d => ∃ b : Bool, d = .p (.bool b))) :=
  pd_cmp (op_eqD hr.units) (nomark _) (fun x y ⟨i, h1, ei⟩ hy => by
    subst ei
    cases hy
    exact fun B H v w e r1 r2 Q q => does_eq (shI i) (shI j) B H v w e r1 r2 Q fun z d B' H' e' s' r' => q z d B' H' e' ⟨_, s'⟩ r') ha hb
theorem ptc_eqIS (hr : Room k X.A) (ha : PE X a (tD (pwOf X) Γ (IntP R))) (hb : PE X b (tD (pwOf X) Γ (IsI j))) : PT X (.Compare a [.Eq] [b] pos) (tT (pwOf X) Γ (fun _ => True)) :=
  pt_op (op_eqD hr.units) (nomark _) (fun x y ⟨i, h1, ei⟩ hy => by
    subst ei
    cases hy
    exact fun B H v w e r1 r2 Q q => does_eq (shI i) (shI j) B H v w e r1 r2 Q fun z d B' H' e' s' r' => q z d B' H' e' ⟨_, trivial, s'⟩ r') ha hb
theorem pwb_andS {Ta Tb T : Bool → Prop} (ha : PT X a (tT κ Γ Ta)) (hb : PW X (.BoolOp .And (b :: es) pos) (tT κ Γ Tb)) (h1 : Ta false → T false) (h2 : ∀ x, Ta true → Tb x → T x) : PW X (.BoolOp .And (a :: b :: es) pos) (tT κ Γ T) := by
  exact pw_mono (pw_and ha hb) fun σ H Q ⟨H0, B, E, q⟩ => ⟨H0, B, E, fun b B1 H1 e1 t => by
      cases b with
      | false =>
        show (if false = true then _ else _)
        rw [if_neg (by decide)]
        exact q _ B1 H1 e1 (h1 t)
      | true =>
        show (if true = true then _ else _)
        rw [if_pos rfl]
        exact ⟨H0, B1, E.ext e1, fun b B2 H2 e2 t2 => q b B2 H2 (e1.trans e2) (h2 b t t2)⟩⟩
/-- [elt for y in ..], told by what may come -/
theorem pn_c1S {up : ι → List Sl → List Sl} {S : ι → PyData → Prop} {elt : Expr} {scope : Scope} (j : Nat) (hN : X.N.Nodup) (src : Src X (.Name y p1) iter Γ (gName j) [j] as up) (he : ∀ a ∈ as, BlkAll X scope fun Y => PE Y elt (tD (pwOf X) (up a (wipeG Γ [j])) (fun d => ∃ y, S a y ∧ d = .p y))) (hc : X.calm = true := by rfl) (ok : BlkOk X.N X.env.scope scope [(y, j)] := by exact blkOk_by rfl) (hj : X.N[j]? = some y := by rfl)
    (hx : BlkAll X scope fun Y => Loc Y.env.scope y := by intro _ _ _ _ _; first | exact Or.inl rfl | exact Or.inr rfl) (hf : BlkAll X scope fun Y => Y.fn y = true ∨ Y.env.scope.names.lookup y = some .local := by intro _ _ _ _ _; first | exact .inl rfl | exact .inr rfl) (hs : ∀ x, foldedSetIterable iter X.env x = pure x := by intro _; rfl) :
    PE X (.ListComp elt [⟨.Name y p1, iter, [], 0⟩] scope pos) (tN (pwOf X) Γ (fun ys => Paired S as ys)) := by
  refine pn_imp (pn_lcS (S := S) (t := fun _ => true) (own := [(y, j)]) hc hN src ok (by simp) (fun s H C cl fp => pg_name (i := j) hN hj (hx s H C cl fp) (hf s H C cl fp)) (fun _ _ _ _ _ => pts_nil) (fun a _ σ H Q ⟨H0, B, E, q⟩ => q true B H (Ext.refl E.sub) rfl) (fun a ha _ s H C cl fp => he a ha s H C cl fp) hs) fun ys h => ?_
  rw [List.filter_eq_self.mpr (fun _ _ => rfl)] at h
  exact h
theorem pd_tupLS {T : List PyData → Prop} (hm : X.mg "tuple" = none) (ha : PE X e (tL (pwOf X) Γ T)) (hg : Gl X "tuple" := by rfl) (hs : starEach [e] X.env = (false, eval e X.env) :: starEach [] X.env := by rfl) : PE X (.Call (.Name "tuple" p) [e] [] pos) (tD (pwOf X) Γ (fun d => ∃ ys, T ys ∧ d = .p (.tuple ys))) :=
  pd_YL (cr_tupL (T0 := T)) hg hm bt_tuple ha (by decide) (by decide) hs
end
section
variable {P : Program} {w : World} {K : PySem.W.Frag} {mg : Str → Option Value} {base : Heap}
theorem cmulS {i j : Int} (h : 0 ≤ j ∧ j < 18446744073709551616) : CMul i j := .inr ⟨by omega, by omega⟩
abbrev φ75 : Ph := phD (fun ns : List Int => True) (fun ns => [.p (.list (ns.map .int)), .p (.int 0)]) (fun _ => Is .pot)
def ok75 (T : Tx K mg) : Cal P w K mg base 1 "_law_pot" ["_law_script", "_law_k"] φ75 :=
  T.a75.cal fun F => fnG F c75 (fun ds Rd Rn h => by obtain ⟨d, _, rfl, _⟩ := h; rfl) fun cdv A outer s H hG hr ds Rd Rn h => by
    obtain ⟨ns, _, rfl, rfl, rfl⟩ := h
    refine ss_set 2 (pd_add (i := 1019 * 0) (pd_mul (cmulS (by decide)) pd_int (pd_var 1)) pd_int) ?_ c75.nd
    refine ss_if (T := Is (decide ((0 : Int) < ns.length))) (C := fun Γ => ∃ c : Int, 0 ≤ c ∧ Γ = [.d (.p (.list (ns.map .int))), .d (.p (.int 0)), .d (.p (.int c))]) (pt_eq (ptc_lt (pd_var 1) (pd_lenL T.z_len (pd_l (pd_var 0)))) (by rw [List.length_map])) (fun z => ?_) (fun z => ss_nil ⟨691, by decide, rfl⟩) (fun Γ' hC => ?_)
    · have z : true = decide ((0 : Int) < ns.length) := z
      have z := of_decide_eq_true z.symm
      cases ns with
      | nil => simp at z
      | cons n ns =>
        exact ss_set 2 (pd_B cr_abs rfl T.z_abs bt_abs (ps_cons (pd_ixL (xs := .int n :: ns.map .int) (pd_l (pd_var 0)) (pd_var 1) at0) ps_nil)) (ss_nil ⟨(n.natAbs : Int), by omega, rfl⟩) c75.nd
    · obtain ⟨c, hc, rfl⟩ := hC
      refine ss_ret (pe_hide (pn_imp (T := Is [.int (max 0 (c - 10 ^ 18)), .int ((c % 2147483549 * 48271 + 4153 * 0 + 17) % 2147483563 + 1)]) (pn_lst (xs := [.int (max 0 (c - 10 ^ 18)), .int ((c % 2147483549 * 48271 + 4153 * 0 + 17) % 2147483563 + 1)]) (ps_cons (pd_B (cr_max2 rfl) rfl T.z_max bt_max (ps_cons pd_int (ps_cons (pd_sub (pd_var 2) (pd_eq (pd_pow ⟨by decide, by decide, by decide⟩ pd_int pd_int) rfl)) ps_nil))) (ps_cons (pd_add (pd_mod (by decide) (pd_Y cr_int1 rfl T.z_int bt_int (ps_cons (pd_add (pd_add (pd_mul (cmulS (by decide)) (pd_mod (by decide) (pd_Y cr_int1 rfl T.z_int bt_int (ps_cons (pd_var 2) ps_nil)) pd_int) pd_int) (pd_mul (cmulS (by decide)) pd_int (pd_var 1))) pd_int) ps_nil)) pd_int) pd_int) ps_nil)) rfl (by simp)) fun ds hd => ?_)) fun d h => h
      refine ⟨_, _, ?_, hd⟩
      have h1 := Int.emod_nonneg (c % 2147483549 * 48271 + 4153 * 0 + 17) (b := 2147483563) (by decide)
      have h2 := Int.emod_lt_of_pos (c % 2147483549 * 48271 + 4153 * 0 + 17) (b := 2147483563) (by decide)
      exact ⟨by omega, by omega, by omega⟩
abbrev Under (n : Int) : Dd → Prop := IntP fun r => 0 ≤ r ∧ r < n
abbrev φ76 : Ph := phD (fun n : Int => 0 < n ∧ n < 1073741824) (fun n => [.pot, .p (.int n)]) (fun n => Under n)
def ok76 (T : Tx K mg) : Cal P w K mg base 1 "_law_draw" ["_law_pot_here", "_law_size"] φ76 :=
  T.a76.cal fun F => fnG F c76 (fun ds Rd Rn h => by obtain ⟨d, _, rfl, _⟩ := h; rfl) fun cdv A outer s H hG hr ds Rd Rn h => by
    obtain ⟨n, hn, rfl, rfl, rfl⟩ := h
    refine ss_if (T := fun _ => True) (C := fun Γ => Γ = [.d .pot, .d (.p (.int n)), .any]) (ptr_gt0 (pdr_pot0 0) pd_int) (fun _ => ?_) (fun _ => ss_nil rfl) (fun Γ' hC => ?_)
    · exact ss_potPair 0 2 rfl (pd_divmod rfl T.z_divmod hn.1 hn.2 (pdr_pot0 0) (pd_var 1)) rfl (fun r h0 h1 => ss_ret (pdr_is (pd_var 2) ⟨h0, h1⟩) fun d h => h) c76.nd
    · cases hC
      refine ss_potSet 0 (pdr_mod (R := fun _ => True) (R' := Is 2147483587) (fun i j _ hj => ?_) (pdr_int rfl T.z_int (pdr_add (R := fun _ => True) (R' := Is 4153) (fun _ _ _ _ => trivial) (pdr_mul (R := fun n => 0 ≤ n ∧ n < 4294967296) (R' := Is 39373) (fun i j _ hj => ?_) (pdr_pot1 0) (pdr_is pd_int rfl)) (pdr_is pd_int rfl))) (pdr_is pd_int rfl)) ?_
      · cases hj
        have h1 := Int.emod_nonneg i (b := 2147483587) (by decide)
        have h2 := Int.emod_lt_of_pos i (b := 2147483587) (by decide)
        exact ⟨by decide, h1, by omega⟩
      · cases hj
        exact ⟨cmulS (by decide), trivial⟩
      · refine ss_ret (pdr_mod (R := fun _ => True) (R' := Is n) (fun i j _ hj => ?_) (pdr_int rfl T.z_int (pdr_fdiv (R := fun _ => True) (R' := Is 17) (fun i j _ hj => ?_) (pdr_mod (R := fun _ => True) (R' := Is 2147483563) (fun i j _ hj => ?_) (pdr_int rfl T.z_int (pdr_mul (R := fun n => 0 ≤ n ∧ n < 4294967296) (R' := fun n => 0 ≤ n ∧ n < 4294967296) (fun i j hi hj => ⟨cmulS ⟨hj.1, by omega⟩, trivial⟩) (pdr_pot1 0) (pdr_pot1 0))) (pdr_is pd_int rfl)) (pdr_is pd_int rfl))) (pdr_is (pd_var 1) rfl)) fun d h => h
        · cases hj
          exact ⟨hn.1, Int.emod_nonneg _ (by omega), Int.emod_lt_of_pos _ hn.1⟩
        · cases hj
          exact ⟨⟨by decide, by decide⟩, trivial⟩
        · cases hj
          exact ⟨by decide, trivial⟩
/-- a draw -/
theorem pd_draw {X : Cx} {e : Expr} {pos p : Pos} {Γ : List Sl} {k : Nat} {n : Int} {a : Expr} (T : Tx K mg) (q : Cal P w K mg base 1 "_law_draw" ["_law_pot_here", "_law_size"] φ76) (hG : X.A.guards = some []) (hr : Room (k + 1) X.A) (h1 : 0 < n) (h2 : n < 1073741824) (hp : PE X a (tD (pwOf X) Γ (Is .pot))) (ha : PE X e (tD (pwOf X) Γ (IsI n)))
    (g1 : X.prog = P := by rfl) (g2 : X.w = w := by rfl) (g3 : X.K = K := by rfl) (g4 : X.mg = mg := by rfl) (g5 : X.base = base := by rfl) (hg : Gl X "_law_draw" := by rfl) (he : starEach [a, e] X.env = (false, eval a X.env) :: starEach [e] X.env := by rfl) (he' : starEach [e] X.env = (false, eval e X.env) :: starEach [] X.env := by rfl) (hpl : (backTo pos (starEach [e] X.env)).any (·.1) = false := by rfl) : PE X (.Call (.Name "_law_draw" p) [a, e] [] pos) (tD (pwOf X) Γ (Under n)) :=
  pd_c q ⟨n, ⟨h1, h2⟩, rfl, rfl, rfl⟩ hG (hr.mono (by omega)) (ps_cons hp (ps_cons ha ps_nil he') he) g1 g2 g3 g4 g5 hg (by decide) he hpl
abbrev φ77 : Ph := phD (fun xs : List PyData => 0 < xs.length ∧ xs.length < 1073741824) (fun xs => [.pot, .p (.list xs)]) (fun xs d => ∃ x ∈ xs, d = .p x)
def ok77 (T : Tx K mg) : Cal P w K mg base 2 "_law_pick" ["_law_pot_here", "_law_some"] φ77 :=
  let q76 := ok76 (P := P) (w := w) (base := base) T
  T.a77.cal fun F => fnG F c77 (fun ds Rd Rn h => by obtain ⟨d, _, rfl, _⟩ := h; rfl) fun cdv A outer s H hG hr ds Rd Rn h => by
    obtain ⟨xs, hx, rfl, rfl, rfl⟩ := h
    have hx : 0 < xs.length ∧ xs.length < 1073741824 := hx
    refine ss_ret (pd_ixLS (S := fun d => ∃ x ∈ xs, d = .p x) (pd_draw (k := 0) T q76 hG hr (n := (xs.length : Int)) (by omega) (by omega) (pd_var 0) (pd_lenL T.z_len (pd_l (pd_var 1)))) (pd_l (pd_var 1)) fun y ⟨i, hi, ei⟩ => ?_) fun d h => h
    obtain ⟨j, rfl⟩ := Int.eq_ofNat_of_zero_le hi.1
    have hj : j < xs.length := by omega
    exact ⟨_, xs[j], ei, atI_nat (List.getElem?_eq_getElem hj), xs[j], List.getElem_mem hj, rfl⟩
end
end K62
/-! the drawn frame -/
namespace K62
open PySem PySem.Spec PyProof.Rows L2
section
variable {P : Program} {w : World} {K : PySem.W.Frag} {mg : Str → Option Value} {base : Heap}
structure Row1 (n : Nat) (lo hi : Int) (v : Vec) : Prop where
  len : v.length = n
  ent : ∀ x ∈ v, lo ≤ x ∧ x ≤ hi
theorem Row1.snoc {n : Nat} {lo hi : Int} {v : Vec} (r : Row1 n lo hi v) {x : Int} (h : lo ≤ x ∧ x ≤ hi) : Row1 (n + 1) lo hi (v ++ [x]) :=
  ⟨by rw [List.length_append, r.len]; rfl, fun y hy => by
    rcases List.mem_append.mp hy with z | z
    · exact r.ent y z
    · rw [List.mem_singleton.mp z]
      exact h⟩
theorem gf_one {n : Nat} {v : Vec} (hn : 2 ≤ n ∧ n ≤ 3) (h : Row1 n 1 2 v) : GF [v] := by
  refine ⟨by simp, ?_, fun r hr => ?_, fun r hr x hx => ?_, fun x hx => h.ent x hx⟩
  · show 2 ≤ v.length ∧ v.length ≤ 3
    rw [h.len]; exact hn
  · rw [List.mem_singleton.mp hr]; rfl
  · rw [List.mem_singleton.mp hr] at hx
    have := h.ent x hx
    omega
theorem gf_two {n : Nat} {v u : Vec} (hn : 2 ≤ n ∧ n ≤ 3) (h : Row1 n 1 2 v) (h2 : Row1 n 0 2 u) : GF [v, u] := by
  refine ⟨by simp, ?_, fun r hr => ?_, fun r hr x hx => ?_, fun x hx => h.ent x hx⟩
  · show 2 ≤ v.length ∧ v.length ≤ 3
    rw [h.len]; exact hn
  · show r.length = v.length
    rcases List.mem_cons.mp hr with z | z
    · rw [z]
    · rw [List.mem_singleton.mp z, h.len, h2.len]
  · rcases List.mem_cons.mp hr with z | z
    · rw [z] at hx
      have := h.ent x hx
      omega
    · rw [List.mem_singleton.mp z] at hx
      exact h2.ent x hx
theorem set_eq {α : Type} {xs ys : List α} (h : xs = ys) : xs = ys := h
abbrev φ78 : Ph := phD (fun _ : Unit => True) (fun _ => [.pot]) (fun _ d => ∃ F, GF F ∧ d = .p (eF F))
def ok78 (T : Tx K mg) : Cal P w K mg base 2 "_law_drawn_frame" ["_law_pot_here"] φ78 :=
  let q76 := ok76 (P := P) (w := w) (base := base) T
  T.a78.cal fun F => fnG F c78 (fun ds Rd Rn h => by obtain ⟨d, _, rfl, _⟩ := h; rfl) fun cdv A outer s H hG hr ds Rd Rn h => by
    obtain ⟨_, _, rfl, rfl, rfl⟩ := h
    refine ss_par3 1 2 3 rfl (pv_d (pdr_add (R := Is 2) (R' := fun r => 0 ≤ r ∧ r < 2) (S := fun r => 2 ≤ r ∧ r ≤ 3) (fun i j hi hj => by cases hi; omega) (pdr_is pd_int rfl) (pd_draw (k := 0) T q76 hG hr (by decide) (by decide) (pd_var 0) pd_int))) (pv_n (pn_lst (xs := []) ps_nil rfl (by simp))) (pv_n (pn_lst (xs := []) ps_nil rfl (by simp))) (fun sa sb sc ha hb hc => ?_) c78.nd
    obtain ⟨d, ⟨c, hc2, rfl⟩, rfl⟩ := ha
    obtain ⟨xs, hxs, rfl⟩ := hb
    cases hxs
    obtain ⟨xs, hxs, rfl⟩ := hc
    cases hxs
    obtain ⟨n, rfl⟩ := Int.eq_ofNat_of_zero_le (show 0 ≤ c by omega)
    have hn : 2 ≤ n ∧ n ≤ 3 := by omega
    refine ss_setS 4 (pd_eqIS hr (pd_draw (k := 0) T q76 hG hr (by decide) (by decide) (pd_var 0) pd_int) pd_int) (fun d hd => ?_) c78.nd
    obtain ⟨pl, rfl⟩ := hd
    refine ss_for (I := fun i Γ => ∃ v a, Row1 i 1 2 v ∧ Γ = [.d .pot, .d (.p (.int n)), .own (v.map .int), .own [], .d (.p (.bool pl)), a, .any]) rfl PassesOwn.never (src_range1 (j := 5) (n := n) rfl T.z_range (by omega) (pd_var 1)) (pg_name (i := 5) c78.nd rfl (.inl rfl)) ⟨[], .any, ⟨rfl, fun x hx => by cases hx⟩, rfl⟩ (fun i p Γ' hp hI => ?_) (fun Γ' hI => ?_)
    · obtain ⟨v, a, hv, rfl⟩ := hI
      refine ss_append 2 (xs := v.map .int) (T := fun y => ∃ r : Int, (1 ≤ r ∧ r ≤ 2) ∧ y = .int r) (pd_if (T := fun _ => True) (pt_imp (pt_b (pd_var 4)) fun _ _ => trivial) (fun _ => pd_imp pd_int fun d hd => ⟨.int 1, ⟨1, by decide, rfl⟩, hd⟩) (fun _ => pd_imp (pdr_add (R := Is 1) (R' := fun r => 0 ≤ r ∧ r < 2) (S := fun r => 1 ≤ r ∧ r ≤ 2) (fun i j hi hj => by cases hi; omega) (pdr_is pd_int rfl) (pd_draw (k := 0) T q76 hG hr (by decide) (by decide) (pd_var 0) pd_int)) fun d ⟨r, hr1, hr2⟩ => ⟨.int r, ⟨r, hr1, rfl⟩, hr2⟩)) ?_ (fun y hy => ?_)
      · have : i < n := by
          have := (List.getElem?_eq_some_iff.mp hp).1
          rwa [List.length_range] at this
        rw [List.length_map, hv.len]
        omega
      · obtain ⟨r, hr1, rfl⟩ := hy
        exact ss_nil ⟨v ++ [r], _, hv.snoc hr1, by rw [List.map_append]; rfl⟩
    obtain ⟨v, a, hv, rfl⟩ := hI
    rw [List.length_range] at hv
    refine ss_append 3 (xs := []) (T := Is (eV v)) (pd_imp (pd_tupL T.z_tuple (pl_own 2)) fun d hd => ⟨_, rfl, hd⟩) (by simp) (fun y hy => ?_)
    cases hy
    refine ss_if (T := fun _ => True) (C := fun Γ => ∃ F o a b, GF F ∧ Γ = [.d .pot, .d (.p (.int n)), o, .own (F.map eV), .d (.p (.bool pl)), a, b]) (PW.pt (pwb_andS (Ta := fun _ => True) (Tb := fun _ => True) (pt_imp (pt_b (pd_var 4)) fun _ _ => trivial) (pwb_one (ptc_eqIS hr (pd_draw (k := 0) T q76 hG hr (by decide) (by decide) (pd_var 0) pd_int) pd_int)) (fun _ => trivial) fun _ _ _ => trivial)) (fun _ => ?_) (fun _ => ss_nil ⟨[v], .own (v.map .int), a, .any, gf_one hn hv, rfl⟩) (fun Γ' hC => ?_)
    · refine ss_setN 6 (pn_lst (xs := []) ps_nil rfl (by simp)) (fun ys hys => ?_) c78.nd
      cases hys
      refine ss_for (I := fun i Γ => ∃ u a, Row1 i 0 2 u ∧ Γ = [.d .pot, .d (.p (.int n)), .own (v.map .int), .own [eV v], .d (.p (.bool pl)), a, .own (u.map .int)]) rfl PassesOwn.never (src_range1 (j := 5) (n := n) rfl T.z_range (by omega) (pd_var 1)) (pg_name (i := 5) c78.nd rfl (.inl rfl)) ⟨[], a, ⟨rfl, fun x hx => by cases hx⟩, rfl⟩ (fun i p Γ' hp hI => ?_) (fun Γ' hI => ?_)
      · obtain ⟨u, a, hu, rfl⟩ := hI
        refine ss_append 6 (xs := u.map .int) (T := fun y => ∃ r : Int, (0 ≤ r ∧ r ≤ 2) ∧ y = .int r) (pd_imp (pd_draw (k := 0) T q76 hG hr (n := 3) (by decide) (by decide) (pd_var 0) pd_int) fun d ⟨r, hr1, hr2⟩ => ⟨.int r, ⟨r, by omega, rfl⟩, hr2⟩) ?_ (fun y hy => ?_)
        · have : i < n := by
            have := (List.getElem?_eq_some_iff.mp hp).1
            rwa [List.length_range] at this
          rw [List.length_map, hu.len]
          omega
        · obtain ⟨r, hr1, rfl⟩ := hy
          exact ss_nil ⟨u ++ [r], _, hu.snoc hr1, by rw [List.map_append]; rfl⟩
      obtain ⟨u, a, hu, rfl⟩ := hI
      rw [List.length_range] at hu
      refine ss_append 3 (xs := [eV v]) (T := Is (eV u)) (pd_imp (pd_tupL T.z_tuple (pl_own 6)) fun d hd => ⟨_, rfl, hd⟩) (by simp) (fun y hy => ?_)
      cases hy
      exact ss_nil ⟨[v, u], _, _, _, gf_two hn hv hu, rfl⟩
    · obtain ⟨F, o, a, b, g, rfl⟩ := hC
      exact ss_ret (pd_tup (xs := [.str "frame", .tuple (F.map eV)]) (ps_cons pd_str (ps_cons (pd_tupL T.z_tuple (pl_own 3)) ps_nil)) rfl (by simp)) fun d hd => ⟨F, g, hd⟩
end
end K62
/-! the law's own sums, rows, stacks, patterns -/
namespace K62
open PySem PySem.Spec PyProof.Rows L2
section
variable {P : Program} {w : World} {K : PySem.W.Frag} {mg : Str → Option Value} {base : Heap}
theorem cmulV {F : Frm} (g : GF F) {r : Vec} (hr : r ∈ F) {x y : Int} (hx : x ∈ r) : CMul x y := .inl (by have := g.ent r hr x hx; omega)
abbrev φ79 : Ph := phD (fun i : Frm × Vec => GF i.1) (fun i => [.p (eF i.1), .p (eV i.2)]) (fun i => IsP (eV (sumsV i.1 i.2)))
def ok79 (T : Tx K mg) : Cal P w K mg base 1 "_law_sums" ["_law_frame", "_law_row"] φ79 :=
  T.a79.cal fun F => fnG F c79 (fun ds Rd Rn h => by obtain ⟨d, _, rfl, _⟩ := h; rfl) fun cdv A outer s H hG hr ds Rd Rn h => by
    obtain ⟨⟨F, v⟩, g, rfl, rfl, rfl⟩ := h
    have g : GF F := g
    exact ss_ret (pdp_eq (pd_tupL T.z_tuple (pn_l (pn_c1 (f := fun r => .int (dot r v)) 2 c79.nd (src_tup (as := F) (enc := eV) (pd_ixT (pd_var 0) pd_int at1)) fun r hr' _ _ _ _ _ => pd_sumN (f := fun p : Int × Int => p.1 * p.2) (as := r.zip v) T.z_sum (pn_c2 3 4 c79.nd (src_zip (as := r) (bs := v) (enc := .int) (enc2 := .int) rfl T.z_zip (pd_var 2) (pd_var 1)) fun q hq _ _ _ _ _ => pd_mul (cmulV g hr' (List.of_mem_zip (a := q.1) (b := q.2) hq).1) (pd_var 3) (pd_var 4))))) (by unfold eV sumsV; rw [List.map_map]; rfl)) fun d h => h
def chgL (F : Frm) (v : Vec) : Bool := decide (sumsV F v = List.replicate F.length 0)
theorem eV_zeros (n : Nat) : PyData.tuple (List.replicate n (.int 0)) = eV (List.replicate n 0) := by
  unfold eV
  rw [List.map_replicate]
abbrev φ80 : Ph := phD (fun i : Frm × Vec => GF i.1) (fun i => [.p (eF i.1), .p (eV i.2)]) (fun i => IsB (chgL i.1 i.2))
def ok80 (T : Tx K mg) : Cal P w K mg base 2 "_law_is_change" ["_law_frame", "_law_row"] φ80 :=
  let q79 := ok79 (P := P) (w := w) (base := base) T
  T.a80.cal fun F => fnG F c80 (fun ds Rd Rn h => by obtain ⟨d, _, rfl, _⟩ := h; rfl) fun cdv A outer s H hG hr ds Rd Rn h => by
    obtain ⟨⟨F, v⟩, g, rfl, rfl, rfl⟩ := h
    have g : GF F := g
    have hl := g.len
    refine ss_ret (pdp_eq (pd_eqD hr (sh_V (sumsV F v)) (sh_V (List.replicate F.length 0)) (pd_c q79 ⟨(F, v), g, rfl, rfl, rfl⟩ hG hr (ps_cons (pd_var 0) (ps_cons (pd_var 1) ps_nil))) (pdp_eq (pd_tupL T.z_tuple (pn_l (pn_rep (d := .int 0) (n := F.length) (by omega) (pn_lst (xs := [.int 0]) (ps_cons pd_int ps_nil) rfl (by simp)) (pdp_eq (pd_lenT (xs := F.map eV) T.z_len (pd_ixT (pd_var 0) pd_int at1)) (by rw [List.length_map]))))) (eV_zeros _))) (by rw [eqv_V]; rfl)) fun d h => h
abbrev φ81 : Ph := phD (fun i : Vec × Vec => True) (fun i => [.p (eV i.1), .p (eV i.2)]) (fun i => IsP (eV (addV i.1 i.2)))
def ok81 (T : Tx K mg) : Cal P w K mg base 1 "_law_added" ["_law_one", "_law_other"] φ81 :=
  T.a81.cal fun F => fnG F c81 (fun ds Rd Rn h => by obtain ⟨d, _, rfl, _⟩ := h; rfl) fun cdv A outer s H hG hr ds Rd Rn h => by
    obtain ⟨⟨u, v⟩, _, rfl, rfl, rfl⟩ := h
    exact ss_ret (pdp_eq (pd_tupL T.z_tuple (pn_l (pn_c2 (f := fun p : Int × Int => .int (p.1 + p.2)) 2 3 c81.nd (src_zip (as := u) (bs := v) (enc := .int) (enc2 := .int) rfl T.z_zip (pd_var 0) (pd_var 1)) fun q hq _ _ _ _ _ => pd_add (pd_var 2) (pd_var 3)))) (by unfold eV addV; rw [List.map_map]; rfl)) fun d h => h
abbrev φ82 : Ph := phD (fun v : Vec => True) (fun v => [.p (eV v)]) (fun v => IsP (eV (negV v)))
def ok82 (T : Tx K mg) : Cal P w K mg base 1 "_law_turned" ["_law_row"] φ82 :=
  T.a82.cal fun F => fnG F c82 (fun ds Rd Rn h => by obtain ⟨d, _, rfl, _⟩ := h; rfl) fun cdv A outer s H hG hr ds Rd Rn h => by
    obtain ⟨v, _, rfl, rfl, rfl⟩ := h
    exact ss_ret (pdp_eq (pd_tupL T.z_tuple (pn_l (pn_c1 (f := fun x => .int (0 - x)) 1 c82.nd (src_tup (as := v) (enc := .int) (pd_var 0)) fun q hq _ _ _ _ _ => pd_sub pd_int (pd_var 1)))) (by
      unfold eV negV
      rw [List.map_map]
      congr 1
      refine List.map_congr_left fun x _ => ?_
      show PyData.int (0 - x) = .int (-x)
      rw [Int.zero_sub])) fun d h => h
structure Drawn (n : Nat) (l : Nat) (m : Int) (s : Stk) : Prop where
  len : s.length = l
  row : ∀ v ∈ s, Row1 n 0 (m - 1) v
theorem paired_row {lo hi : Int} : ∀ {as : List Int} {ys : List PyData}, Paired (fun _ y => ∃ r : Int, (lo ≤ r ∧ r ≤ hi) ∧ y = .int r) as ys → ∃ v : Vec, Row1 as.length lo hi v ∧ ys = v.map .int
  | _, _, .nil => ⟨[], ⟨rfl, fun x hx => by cases hx⟩, rfl⟩
  | _, _, .cons ⟨r, hr, e⟩ t => by
    obtain ⟨v, hv, ev⟩ := paired_row t
    refine ⟨r :: v, ⟨by rw [List.length_cons, List.length_cons, hv.len], fun x hx => ?_⟩, by rw [e, ev]; rfl⟩
    rcases List.mem_cons.mp hx with z | z
    · rw [z]; exact hr
    · exact hv.ent x z
abbrev φ83 : Ph := phD (fun i : Frm × Nat × Int => GF i.1 ∧ i.2.1 ≤ 1000 ∧ 0 < i.2.2 ∧ i.2.2 < 1000) (fun i => [.pot, .p (eF i.1), .p (.int i.2.1), .p (.int i.2.2)]) (fun i d => ∃ s, Drawn (cellsN i.1) i.2.1 i.2.2 s ∧ d = .p (eS s))
def ok83 (T : Tx K mg) : Cal P w K mg base 2 "_law_stack" ["_law_pot_here", "_law_frame", "_law_layers", "_law_most"] φ83 :=
  let q76 := ok76 (P := P) (w := w) (base := base) T
  T.a83.cal fun F => fnG F c83 (fun ds Rd Rn h => by obtain ⟨d, _, rfl, _⟩ := h; rfl) fun cdv A outer s H hG hr ds Rd Rn h => by
    obtain ⟨⟨F, l, m⟩, ⟨g, hl, hm0, hm1⟩, rfl, rfl, rfl⟩ := h
    have g : GF F := g
    have hl : l ≤ 1000 := hl
    have hm0 : 0 < m := hm0
    have hm1 : m < 1000 := hm1
    obtain ⟨r, R, rfl⟩ := g.cons
    refine ss_setN 4 (pn_lst (xs := []) ps_nil rfl (by simp)) (fun ys hys => ?_) c83.nd
    cases hys
    refine ss_for (I := fun i Γ => ∃ s a, Drawn r.length i m s ∧ Γ = [.d .pot, .d (.p (eF (r :: R))), .d (.p (.int l)), .d (.p (.int m)), .own (s.map eV), a, .any]) rfl PassesOwn.never (src_range1 (j := 5) (n := l) rfl T.z_range (by omega) (pd_var 2)) (pg_name (i := 5) c83.nd rfl (.inl rfl)) ⟨[], .any, ⟨rfl, fun x hx => by cases hx⟩, rfl⟩ (fun i p Γ' hp hI => ?_) (fun Γ' hI => ?_)
    · obtain ⟨s, a, hs, rfl⟩ := hI
      refine ss_append 4 (xs := s.map eV) (T := fun y => ∃ v, Row1 r.length 0 (m - 1) v ∧ y = eV v) (pd_imp (pd_tupLS T.z_tuple (pn_l (pn_c1S (S := fun _ y => ∃ x : Int, (0 ≤ x ∧ x ≤ m - 1) ∧ y = .int x) (as := r) 6 c83.nd (src_tup (enc := .int) (pd_ixT (xs := eV r :: R.map eV) (pd_ixT (pd_var 1) pd_int at1) pd_int at0)) fun x hx _ _ _ _ _ => pd_imp (pd_draw (k := 0) (n := m) T q76 hG hr hm0 (by omega) (pd_var 0) (pd_var 3)) fun d ⟨n, hn, e⟩ => ⟨.int n, ⟨n, by omega, rfl⟩, e⟩))) fun d ⟨ys, hy, e⟩ => ?_) ?_ (fun y hy => ?_)
      · obtain ⟨v, hv, ev⟩ := paired_row hy
        exact ⟨eV v, ⟨v, hv, rfl⟩, by rw [e, ev]; rfl⟩
      · have : i < l := by
          have := (List.getElem?_eq_some_iff.mp hp).1
          rwa [List.length_range] at this
        rw [List.length_map, hs.len]
        omega
      · obtain ⟨v, hv, rfl⟩ := hy
        refine ss_nil ⟨s ++ [v], _, ⟨by rw [List.length_append, hs.len]; rfl, fun u hu => ?_⟩, by rw [List.map_append]; rfl⟩
        rcases List.mem_append.mp hu with z | z
        · exact hs.row u z
        · rw [List.mem_singleton.mp z]; exact hv
    · obtain ⟨s, a, hs, rfl⟩ := hI
      rw [List.length_range] at hs
      exact ss_ret (pd_tupL T.z_tuple (pl_own 4)) fun d hd => ⟨s, hs, hd⟩
def patL (cs : List Vec) : Stk := minS (sortV cs) (sortV (cs.map negV))
abbrev φ84 : Ph := phD (fun cs : List Vec => Rows cs) (fun cs => [.p (.list (cs.map eV))]) (fun cs => IsP (eS (patL cs)))
def ok84 (T : Tx K mg) : Cal P w K mg base 2 "_law_pattern" ["_law_changes"] φ84 :=
  let q82 := ok82 (P := P) (w := w) (base := base) T
  T.a84.cal fun F => fnG F c84 (fun ds Rd Rn h => by obtain ⟨d, _, rfl, _⟩ := h; rfl) fun cdv A outer s H hG hr ds Rd Rn h => by
    obtain ⟨cs, hb, rfl, rfl, rfl⟩ := h
    have hb : Rows cs := hb
    refine ss_set 1 (d := .p (eS (sortV cs))) (pd_tupL T.z_tuple (pn_l (pn_sortV T.z_sorted hr hb (pd_l (pd_var 0))))) ?_ c84.nd
    refine ss_ret (pd_minS T.z_min hr (pd_var 1) (pd_tupL T.z_tuple (pn_l (pn_sortV (bs := cs.map negV) T.z_sorted hr (rows_neg hb) (pl_eq (pn_l (pn_c1 (f := fun v => eV (negV v)) (as := cs) 2 c84.nd (src_list (enc := eV) (pd_var 0)) fun v hv _ _ _ _ _ => pd_c q82 ⟨v, trivial, rfl, rfl, rfl⟩ hG hr (ps_cons (pd_var 2) ps_nil))) (by rw [List.map_map]; rfl)))))) fun d h => h
end
end K62
/-! the law's own put -/
namespace K62
open PySem PySem.Spec PyProof.Rows L2
def lawPut : List Vec → Stk → List Nat → List Stk
  | [], s, _ => [s]
  | c :: cs, s, free => free.flatMap fun a => if okV (addV (s.getD a []) c) then lawPut cs (s.set a (addV (s.getD a []) c)) (free.filter fun l => !decide (l = a)) else []
def facN : Nat → Nat
  | 0 => 1
  | n + 1 => (n + 1) * facN n
theorem filter_ne_len {a : Nat} : ∀ {l : List Nat}, l.Nodup → a ∈ l → (l.filter fun x => !decide (x = a)).length + 1 ≤ l.length
  | [], _, h => by cases h
  | x :: l, nd, h => by
    rw [List.nodup_cons] at nd
    by_cases hx : x = a
    · subst hx
      rw [List.filter_cons_of_neg (by simp), List.length_cons]
      have := List.length_filter_le (fun y => !decide (y = x)) l
      omega
    · rw [List.filter_cons_of_pos (by simp [hx]), List.length_cons, List.length_cons]
      have := filter_ne_len nd.2 ((List.mem_cons.mp h).resolve_left (Ne.symm hx))
      omega
theorem facN_mono : ∀ {m n : Nat}, m ≤ n → facN m ≤ facN n
  | m, 0, h => by
    have : m = 0 := by omega
    subst this
    exact Nat.le_refl _
  | m, n + 1, h => by
    rcases Nat.lt_or_ge m (n + 1) with z | z
    · have := facN_mono (m := m) (n := n) (by omega)
      rw [facN]
      have : 1 * facN n ≤ (n + 1) * facN n := Nat.mul_le_mul_right _ (by omega)
      omega
    · have : m = n + 1 := by omega
      subst this
      exact Nat.le_refl _
theorem facN_pos : ∀ n, 1 ≤ facN n := fun n => facN_mono (m := 0) (Nat.zero_le n)
theorem lawPut_fac : ∀ (cs : List Vec) (s : Stk) (free : List Nat), free.Nodup → (lawPut cs s free).length ≤ facN free.length
  | [], s, free, _ => facN_pos _
  | c :: cs, s, free, nd => by
    rw [lawPut]
    cases hf : free.length with
    | zero =>
      have : free = [] := List.length_eq_zero_iff.mp hf
      subst this
      simp
    | succ n =>
      rw [facN]
      have : (free.flatMap fun a => if okV (addV (s.getD a []) c) then lawPut cs (s.set a (addV (s.getD a []) c)) (free.filter fun l => !decide (l = a)) else []).length ≤ free.length * facN n := by
        refine flat_few fun a ha => ?_
        split
        · have h1 := lawPut_fac cs (s.set a (addV (s.getD a []) c)) (free.filter fun l => !decide (l = a)) (nd.filter _)
          have h2 := filter_ne_len nd ha
          have h3 := facN_mono (m := (free.filter fun l => !decide (l = a)).length) (n := n) (by omega)
          omega
        · simp
      rw [hf] at this
      exact this
structure PutL (n m : Nat) (cs : List Vec) (s : Stk) (free : List Nat) : Prop where
  sl : s.length ≤ 3
  few : cs.length ≤ m
  row : ∀ t ∈ s, t.length = n
  crow : ∀ c ∈ cs, c.length = n
  sz : 1 ≤ n ∧ n ≤ 1000
  lt : ∀ a ∈ free, a < s.length
  nd : free.Nodup
theorem PutL.fr {n m : Nat} {cs : List Vec} {s : Stk} {free : List Nat} (h : PutL n m cs s free) : free.length ≤ 3 := by
  have := nodup_len (m := List.range s.length) h.nd fun x hx => List.mem_range.mpr (h.lt x hx)
  rw [List.length_range] at this
  have := h.sl
  omega
theorem PutL.res {n m : Nat} {cs : List Vec} {s : Stk} {free : List Nat} (h : PutL n m cs s free) : (lawPut cs s free).length ≤ 6 :=
  Nat.le_trans (lawPut_fac cs s free h.nd) (facN_mono (n := 3) h.fr)
theorem PutL.next {n m : Nat} {c : Vec} {cs : List Vec} {s : Stk} {free : List Nat} (h : PutL n (m + 1) (c :: cs) s free) {a : Nat} (ha : a ∈ free) : PutL n m cs (s.set a (addV (s.getD a []) c)) (free.filter fun l => !decide (l = a)) := by
  have hal := h.lt a ha
  have hlate : (addV (s.getD a []) c).length = n := addV_len (h.row _ (getD_mem hal)) (h.crow c List.mem_cons_self)
  have hf := h.few
  rw [List.length_cons] at hf
  refine ⟨by rw [List.length_set]; exact h.sl, by omega, fun t ht => ?_, fun c hc => h.crow c (List.mem_cons_of_mem _ hc), h.sz, fun l hl => by rw [List.length_set]; exact h.lt l (List.mem_filter.mp hl).1, h.nd.filter _⟩
  rcases List.mem_or_eq_of_mem_set ht with z | z
  · exact h.row t z
  · rw [z]; exact hlate
abbrev eFree (free : List Nat) : PyData := .list (free.map fun (l : Nat) => .int (l : Int))
section
variable {P : Program} {w : World} {K : PySem.W.Frag} {mg : Str → Option Value} {base : Heap}
abbrev φ85 (m : Nat) : Ph := phN (fun i : List Vec × Stk × List Nat => ∃ n, PutL n m i.1 i.2.1 i.2.2) (fun i => [.p (eS i.2.1), .p (eS i.1), .p (eFree i.2.2)]) (fun i => Is ((lawPut i.1 i.2.1 i.2.2).map eS))
def ok85 (T : Tx K mg) : (m : Nat) → Cal P w K mg base (m + 2) "_law_put" ["_law_stack_here", "_law_changes", "_law_free"] (φ85 m)
  | 0 => T.a85.cal fun F => fnG F c85 (fun ds Rd Rn h => by obtain ⟨d, _, rfl, _⟩ := h; rfl) fun cdv A outer st H hG hr ds Rd Rn h => by
    obtain ⟨⟨cs, s, free⟩, ⟨n, C⟩, rfl, rfl, rfl⟩ := h
    have C : PutL n 0 cs s free := C
    cases cs with
    | cons c cs => exact absurd C.few (by simp)
    | nil =>
      exact ss_ifr (b := true) (pt_eq (ptc_eqI hr (pd_lenT (xs := []) T.z_len (pd_var 1)) pd_int) rfl) (fun _ => ss_retN (pn_lst (xs := [eS s]) (ps_cons (pd_var 0) ps_nil) rfl (by simp)) fun d h => h) (fun z => by cases z)
  | m + 1 =>
    let q85 := ok85 T m
    let q81 := ok81 (P := P) (w := w) (base := base) T
    T.a85.cal fun F => fnG F c85 (fun ds Rd Rn h => by obtain ⟨d, _, rfl, _⟩ := h; rfl) fun cdv A outer st H hG hr ds Rd Rn h => by
    obtain ⟨⟨cs, s, free⟩, ⟨n, C⟩, rfl, rfl, rfl⟩ := h
    have C : PutL n (m + 1) cs s free := C
    cases cs with
    | nil =>
      exact ss_ifr (b := true) (pt_eq (ptc_eqI hr (pd_lenT (xs := []) T.z_len (pd_var 1)) pd_int) rfl) (fun _ => ss_retN (pn_lst (xs := [eS s]) (ps_cons (pd_var 0) ps_nil) rfl (by simp)) fun d h => h) (fun z => by cases z)
    | cons c cs =>
      refine ss_ifr (b := false) (pt_eq (ptc_eqI hr (pd_lenT (xs := (c :: cs).map eV) T.z_len (pd_var 1)) pd_int) (decide_eq_false (by rw [List.map_cons, List.length_cons]; omega))) (fun z => by cases z) (fun _ => ?_)
      refine ss_setN 3 (pn_lst (xs := []) ps_nil rfl (by simp)) (fun ys hys => ?_) c85.nd
      cases hys
      obtain ⟨f, ef⟩ : ∃ f : Nat → List Stk, f = fun a => if okV (addV (s.getD a []) c) then lawPut cs (s.set a (addV (s.getD a []) c)) (free.filter fun l => !decide (l = a)) else [] := ⟨_, rfl⟩
      have hsl := C.sl
      have hf6 : ∀ a ∈ free, (f a).length ≤ 6 := fun a ha => by
        rw [ef]
        show (if _ then _ else _ : List Stk).length ≤ 6
        split
        · exact (C.next ha).res
        · simp
      refine ss_for (I := fun i Γ => ∃ a b c' d, Γ = [.d (.p (eS s)), .d (.p (eS (c :: cs))), .d (.p (eFree free)), .own (((free.take i).flatMap f).map eS), a, b, c', d]) rfl PassesOwn.never (src_list (j := 4) (as := free) (enc := fun (l : Nat) => .int (l : Int)) (pd_var 2)) (pg_name (i := 4) c85.nd rfl (.inr rfl)) ⟨.any, .any, .any, .any, rfl⟩ (fun i a Γ' hp hI => ?_) (fun Γ' hI => ?_)
      · obtain ⟨o1, o2, o3, o4, rfl⟩ := hI
        have ha : a ∈ free := List.mem_of_getElem? hp
        have hal := C.lt a ha
        have enext : (free.take (i + 1)).flatMap f = (free.take i).flatMap f ++ f a := by
          rw [List.take_add_one, hp, List.flatMap_append]
          simp
        have hbd : ((free.take i).flatMap f).length ≤ 18 := by
          have h1 := flat_few (f := f) (n := 6) (l := free.take i) fun q hq => hf6 q (List.mem_of_mem_take hq)
          have h2 : (free.take i).length ≤ 3 := by
            have := C.fr
            rw [List.length_take]
            omega
          omega
        have hrow : (s.getD a []).length = n := C.row _ (getD_mem hal)
        have hcl := C.crow c List.mem_cons_self
        obtain ⟨late, el⟩ : ∃ late, late = addV (s.getD a []) c := ⟨_, rfl⟩
        have hll : late.length = n := by rw [el]; exact addV_len hrow hcl
        obtain ⟨y, ys, ey⟩ : ∃ y ys, late = y :: ys := by
          cases h : late with
          | nil =>
            rw [h] at hll
            have := C.sz.1
            simp at hll
            omega
          | cons y ys => exact ⟨y, ys, rfl⟩
        refine ss_set 5 (d := .p (eV late)) (pd_eq (pd_c q81 ⟨(s.getD a [], c), trivial, rfl, rfl, rfl⟩ hG (hr.mono (by omega)) (ps_cons (pd_ixT (xs := s.map eV) (pd_var 0) (pd_var 4) (atN ?_)) (ps_cons (pd_ixT (xs := eV c :: cs.map eV) (pd_var 1) pd_int at0) ps_nil))) (by rw [el])) ?_ c85.nd
        · rw [List.getElem?_map, List.getD_eq_getElem?_getD, List.getElem?_eq_getElem hal]
          rfl
        refine ss_if (T := Is (okV late)) (C := fun Γ => ∃ a b c' d, Γ = [.d (.p (eS s)), .d (.p (eS (c :: cs))), .d (.p (eFree free)), .own (((free.take (i + 1)).flatMap f).map eS), a, b, c', d]) (pt_eq (ptc_ge (pd_B (cr_minT rfl hr (n := y) (ns := ys)) rfl T.z_min bt_min (ps_cons (pdp_eq (pd_var 5) (by rw [ey]; rfl)) ps_nil)) pd_int) (by rw [min_ok, ← ey])) (fun ht => ?_) (fun ht => ?_) (fun Γ' hC => ss_nil hC)
        · have ht : true = okV late := ht
          have efa : f a = lawPut cs (s.set a late) (free.filter fun l => !decide (l = a)) := by
            rw [ef]
            show (if _ then _ else _ : List Stk) = _
            rw [← el, ← ht, if_pos rfl]
          refine ss_lc1T (f := fun (l : Nat) => .int (l : Int)) (t := fun l => !decide (l = a)) (as := free) 6 7 c85.nd (src_list (enc := fun (l : Nat) => .int (l : Int)) (pd_var 2)) (fun v hv _ _ _ _ _ => pt_eq (ptc_neI hr (pd_var 7) (pd_var 4)) (by rw [dec_cast])) (fun v hv _ _ _ _ _ _ => pd_var 7) (ss_freeze 6 ?_)
          refine ss_extend 3 (xs := ((free.take i).flatMap f).map eS) (T := Is ((lawPut cs (s.set a late) (free.filter fun l => !decide (l = a))).map eS)) (pn_c q85 ⟨(cs, s.set a late, free.filter fun l => !decide (l = a)), ⟨n, by rw [el]; exact C.next ha⟩, rfl, rfl, rfl⟩ hG hr (ps_cons (pdp_eq (pd_catT (pd_catT (pd_slT (xs := s.map eV) (pd_var 0) pod_none (pod_some (pd_var 4))) (pd_tup (xs := [eV late]) (ps_cons (pd_var 5) ps_nil) rfl (by simp)) ?_) (pd_slT (xs := s.map eV) (pd_var 0) (pod_some (pdp_eq (pd_add (pd_var 4) pd_int) (d' := .int ((a + 1 : Nat) : Int)) (by congr 1))) pod_none) ?_) ?_) (ps_cons (pdp_eq (pd_slT (xs := (c :: cs).map eV) (pd_var 1) (pod_some pd_int) pod_none) (by rw [cut1_any]; rfl)) (ps_cons (pd_var 6) ps_nil)))) (fun ys hy => ?_) (fun ys hy => ?_)
          · rw [cut_to (by rw [List.length_map]; omega), List.length_take, List.length_map]
            simp
            omega
          · rw [cut_to (by rw [List.length_map]; omega), cut_from (by rw [List.length_map]; omega), List.length_append, List.length_take, List.length_drop, List.length_map]
            simp
            omega
          · rw [cut_to (by rw [List.length_map]; omega), cut_from (by rw [List.length_map]; omega)]
            unfold eS
            rw [set_cut (by rw [List.length_map]; omega), List.map_set]
          · cases hy
            rw [List.length_map, List.length_map, ← efa]
            have := hf6 a ha
            omega
          · cases hy
            refine ss_nil ⟨.d (.p (.int (a : Nat))), .d (.p (eV late)), .d (.p (eFree (free.filter fun l => !decide (l = a)))), o4, ?_⟩
            rw [enext, efa]
            simp only [List.map_append]
            rfl
        · have ht : false = okV late := ht
          have efa : f a = [] := by
            rw [ef]
            show (if _ then _ else _ : List Stk) = _
            rw [← el, ← ht, if_neg (by decide)]
          refine ss_nil ⟨.d (.p (.int (a : Nat))), .d (.p (eV late)), o3, o4, ?_⟩
          rw [enext, efa, List.append_nil]
          rfl
      · obtain ⟨o1, o2, o3, o4, rfl⟩ := hI
        refine ss_retO 3 ?_
        show _ = (lawPut (c :: cs) s free).map eS
        rw [List.take_length, lawPut, ef]
end
end K62
/-! the law's own steps, ends, rows -/
namespace K62
open PySem PySem.Spec PyProof.Rows L2
abbrev putR (s : Stk) (cs : List Vec) : List Stk := lawPut cs s (List.range s.length)
def lawOf (s p : Stk) : List Stk := putR s p ++ putR s (p.map negV)
def lawFound (b : List Stk) (s : Stk) : List Stk := b.flatMap (lawOf s)
theorem putL_of {n : Nat} {s : Stk} {cs : List Vec} (C : PutC n s cs) : PutL n 3 cs s (List.range s.length) :=
  ⟨C.len.2, C.few, C.row, C.crow, C.sz, fun a ha => List.mem_range.mp ha, List.nodup_range⟩
theorem putC_neg {n : Nat} {s p : Stk} (C : PutC n s p) : PutC n s (p.map negV) :=
  ⟨C.len, by rw [List.length_map]; exact C.few, C.row, fun c hc => by
    obtain ⟨u, hu, rfl⟩ := List.mem_map.mp hc
    rw [negV_len]
    exact C.crow u hu, C.sz⟩
theorem lawPut_ok {n : Nat} : ∀ {cs : List Vec} {s : Stk} {free : List Nat}, (∀ t ∈ s, t.length = n) → (∀ c ∈ cs, c.length = n) → (∀ a ∈ free, a < s.length) → ∀ t ∈ lawPut cs s free, t.length = s.length ∧ ∀ v ∈ t, v.length = n
  | [], s, free, h1, _, _, t, ht => by
    rw [lawPut, List.mem_singleton] at ht
    rw [ht]
    exact ⟨rfl, h1⟩
  | c :: cs, s, free, h1, h2, h3, t, ht => by
    rw [lawPut] at ht
    obtain ⟨a, ha, ht⟩ := List.mem_flatMap.mp ht
    split at ht
    · have hal := h3 a ha
      have hlate : (addV (s.getD a []) c).length = n := addV_len (h1 _ (getD_mem hal)) (h2 c List.mem_cons_self)
      have := lawPut_ok (cs := cs) (s := s.set a (addV (s.getD a []) c)) (free := free.filter fun l => !decide (l = a)) (fun u hu => by
        rcases List.mem_or_eq_of_mem_set hu with z | z
        · exact h1 u z
        · rw [z]; exact hlate) (fun c hc => h2 c (List.mem_cons_of_mem _ hc)) (fun l hl => by rw [List.length_set]; exact h3 l (List.mem_filter.mp hl).1) t ht
      rw [List.length_set] at this
      exact this
    · cases ht
section
variable {P : Program} {w : World} {K : PySem.W.Frag} {mg : Str → Option Value} {base : Heap}
abbrev φ86 : Ph := phN (fun i : List Stk × Stk => ∃ n, StepC n i.1 i.2) (fun i => [.p (eB i.1), .p (eS i.2)]) (fun i => Is ((setS (lawFound i.1 i.2)).map eS))
def ok86 (T : Tx K mg) : Cal P w K mg base 6 "_law_steps" ["_law_patterns", "_law_stack_here"] φ86 :=
  let q85 := ok85 (P := P) (w := w) (base := base) T 3
  let q82 := ok82 (P := P) (w := w) (base := base) T
  T.a86.cal fun F => fnG F c86 (fun ds Rd Rn h => by obtain ⟨d, _, rfl, _⟩ := h; rfl) fun cdv A outer st H hG hr ds Rd Rn h => by
    obtain ⟨⟨b, s⟩, ⟨n, C⟩, rfl, rfl, rfl⟩ := h
    have C : StepC n b s := C
    have hfew := C.few
    have h6 : ∀ p ∈ b, (putR s p).length ≤ 6 ∧ (putR s (p.map negV)).length ≤ 6 := fun p hp => ⟨(putL_of (C.put hp)).res, (putL_of (putC_neg (C.put hp))).res⟩
    have h12 : ∀ p ∈ b, (lawOf s p).length ≤ 12 := fun p hp => by
      unfold lawOf
      rw [List.length_append]
      have := h6 p hp
      omega
    have hall : (lawFound b s).length ≤ 24 := by
      have := flat_few (f := lawOf s) (n := 12) (l := b) h12
      unfold lawFound
      omega
    refine ss_setN 2 (pn_lst (xs := []) ps_nil rfl (by simp)) (fun ys hys => ?_) c86.nd
    cases hys
    refine ss_for (I := fun i Γ => ∃ a c d, Γ = [.d (.p (eB b)), .d (.p (eS s)), .own (((b.take i).flatMap (lawOf s)).map eS), a, c, d]) rfl PassesOwn.never (src_tup (j := 3) (as := b) (enc := eS) (pd_var 0)) (pg_name (i := 3) c86.nd rfl (.inl rfl)) ⟨.any, .any, .any, rfl⟩ (fun i p Γ' hp hI => ?_) (fun Γ' hI => ?_)
    · obtain ⟨a, o2, o3, rfl⟩ := hI
      have hpm : p ∈ b := List.mem_of_getElem? hp
      have enext : (b.take (i + 1)).flatMap (lawOf s) = (b.take i).flatMap (lawOf s) ++ lawOf s p := by
        rw [List.take_add_one, hp, List.flatMap_append]
        simp
      have hlen : ((b.take i).flatMap (lawOf s)).length ≤ 24 := by
        have h1 := flat_few (f := lawOf s) (n := 12) (l := b.take i) fun q hq => h12 q (List.mem_of_mem_take hq)
        have h2 : (b.take i).length ≤ 2 := by rw [List.length_take]; omega
        omega
      have h6p := h6 p hpm
      have hC : ∀ cs ∈ [p, p.map negV], PutC n s cs := fun cs hc => by
        rcases List.mem_cons.mp hc with z | z
        · rw [z]; exact C.put hpm
        · rw [List.mem_singleton.mp z]; exact putC_neg (C.put hpm)
      refine ss_for (I := fun j Γ => ∃ d e, Γ = [.d (.p (eB b)), .d (.p (eS s)), .own (((b.take i).flatMap (lawOf s) ++ ([p, p.map negV].take j).flatMap (putR s)).map eS), .d (.p (eS p)), d, e]) rfl PassesOwn.never (src_list (j := 4) (as := [p, p.map negV]) (enc := eS) (pn_d (pn_lst (xs := [eS p, eS (p.map negV)]) (ps_cons (pd_var 3) (ps_cons (pdp_eq (pd_tupL T.z_tuple (pn_l (pn_c1 (f := fun v => eV (negV v)) (as := p) 5 c86.nd (src_tup (enc := eV) (pd_var 3)) fun v hv _ _ _ _ _ => pd_c q82 ⟨v, trivial, rfl, rfl, rfl⟩ hG (hr.mono (by decide)) (ps_cons (pd_var 5) ps_nil)))) (by unfold eS; rw [List.map_map]; rfl)) ps_nil)) rfl (by simp)))) (pg_name (i := 4) c86.nd rfl (.inl rfl)) ⟨o2, o3, ?_⟩ (fun j cs Γ' hj hI => ?_) (fun Γ' hI => ?_)
      · rw [List.take_zero, List.flatMap_nil, List.append_nil]
        rfl
      · obtain ⟨o4, o5, rfl⟩ := hI
        have hcm : cs ∈ [p, p.map negV] := List.mem_of_getElem? hj
        have hput := hC cs hcm
        have en2 : ([p, p.map negV].take (j + 1)).flatMap (putR s) = ([p, p.map negV].take j).flatMap (putR s) ++ putR s cs := by
          rw [List.take_add_one, hj, List.flatMap_append]
          simp
        have hr6 : (putR s cs).length ≤ 6 := (putL_of hput).res
        have hl2 : (([p, p.map negV].take j).flatMap (putR s)).length ≤ 12 := by
          have h1 := flat_few (f := putR s) (n := 6) (l := [p, p.map negV].take j) fun q hq => (putL_of (hC q (List.mem_of_mem_take hq))).res
          have h2 : ([p, p.map negV].take j).length ≤ 2 := by
            rw [List.length_take]
            show min j 2 ≤ 2
            omega
          omega
        refine ss_extend 2 (xs := ((b.take i).flatMap (lawOf s) ++ ([p, p.map negV].take j).flatMap (putR s)).map eS) (T := Is ((putR s cs).map eS)) (pn_c q85 ⟨(cs, s, List.range s.length), ⟨n, putL_of hput⟩, rfl, rfl, rfl⟩ hG hr (ps_cons (pd_var 1) (ps_cons (pd_var 4) (ps_cons (pn_d (pn_listR (n := s.length) rfl rfl T.z_list rfl T.z_range (by have := C.len; omega) (pdp_eq (pd_lenT (xs := s.map eV) T.z_len (pd_var 1)) (by rw [List.length_map])))) ps_nil)))) (fun ys hy => by cases hy; rw [List.length_map, List.length_append, List.length_map]; omega) (fun ys hy => ?_)
        cases hy
        refine ss_nil ⟨.d (.p (eS cs)), o5, ?_⟩
        rw [en2, ← List.append_assoc]
        simp only [List.map_append]
        rfl
      · obtain ⟨o4, o5, rfl⟩ := hI
        refine ss_nil ⟨.d (.p (eS p)), o4, o5, ?_⟩
        rw [enext]
        have : ([p, p.map negV].take [p, p.map negV].length).flatMap (putR s) = lawOf s p := by
          rw [List.take_length]
          unfold lawOf
          simp
        rw [this]
    · obtain ⟨a, c, d, rfl⟩ := hI
      rw [List.take_length]
      refine ss_retN (pn_setSort T.z_sorted T.z_set hr (as := lawFound b s) (by omega) (fun t ht e => ?_) (pl_own 2)) fun d h => h
      obtain ⟨p, hp, ht⟩ := List.mem_flatMap.mp ht
      have key : ∀ cs, PutC n s cs → t ∈ putR s cs → False := fun cs hput hm => by
        have := (lawPut_ok (n := n) hput.row hput.crow (fun a ha => List.mem_range.mp ha) t hm).1
        rw [e] at this
        have := C.len
        simp at *
        omega
      unfold lawOf at ht
      rcases List.mem_append.mp ht with z | z
      · exact key p (C.put hp) z
      · exact key _ (putC_neg (C.put hp)) z
abbrev φ88 : Ph := phD (fun _ : Stk => True) (fun p => [.p (eS p)]) (fun p => IsP (.tuple [eS (p.map posV), eS (p.map fun v => posV (negV v))]))
def ok88 (T : Tx K mg) : Cal P w K mg base 1 "_law_ends" ["_law_pattern_here"] φ88 :=
  T.a88.cal fun F => fnG F c88 (fun ds Rd Rn h => by obtain ⟨d, _, rfl, _⟩ := h; rfl) fun cdv A outer s H hG hr ds Rd Rn h => by
    obtain ⟨p, _, rfl, rfl, rfl⟩ := h
    have e1 : ∀ x : Int, max 0 x = max x 0 := fun x => by omega
    have e2 : ∀ x : Int, max 0 (0 - x) = max (-x) 0 := fun x => by omega
    refine ss_set 1 (d := .p (eS (p.map posV))) (pdp_eq (pd_tupL T.z_tuple (pn_l (pn_c1 (f := fun v => eV (posV v)) (as := p) 2 c88.nd (src_tup (enc := eV) (pd_var 0)) fun v hv _ _ _ _ _ => pdp_eq (pd_tupL T.z_tuple (pn_l (pn_c1 (f := fun x => .int (max x 0)) (as := v) 3 c88.nd (src_tup (enc := .int) (pd_var 2)) fun x hx _ _ _ _ _ => pdp_eq (pd_B (cr_max2 rfl) rfl T.z_max bt_max (ps_cons pd_int (ps_cons (pd_var 3) ps_nil))) (by rw [e1])))) (by unfold eV posV; rw [List.map_map]; rfl)))) (by unfold eS; rw [List.map_map]; rfl)) ?_ c88.nd
    exact ss_ret (pd_tup (xs := [eS (p.map posV), eS (p.map fun v => posV (negV v))]) (ps_cons (pd_var 1) (ps_cons (pdp_eq (pd_tupL T.z_tuple (pn_l (pn_c1 (f := fun v => eV (posV (negV v))) (as := p) 2 c88.nd (src_tup (enc := eV) (pd_var 0)) fun v hv _ _ _ _ _ => pdp_eq (pd_tupL T.z_tuple (pn_l (pn_c1 (f := fun x => .int (max (-x) 0)) (as := v) 3 c88.nd (src_tup (enc := .int) (pd_var 2)) fun x hx _ _ _ _ _ => pdp_eq (pd_B (cr_max2 rfl) rfl T.z_max bt_max (ps_cons pd_int (ps_cons (pd_sub pd_int (pd_var 3)) ps_nil))) (by rw [e2])))) (by unfold eV posV negV; rw [List.map_map, List.map_map]; rfl)))) (by unfold eS; rw [List.map_map]; rfl)) ps_nil)) rfl (by simp)) fun d h => h
def spanR : List Int := (List.range ((2 + 1 : Int) - (0 - 2)).toNat).map fun (k : Nat) => (0 - 2 : Int) + (k : Int)
def longer (cs : List Vec) : List Vec := cs.flatMap fun r => spanR.map fun x => r ++ [x]
def gridN : Nat → List Vec
  | 0 => [[]]
  | n + 1 => longer (gridN n)
theorem rows_len : ∀ n, ∀ v ∈ gridN n, v.length = n
  | 0, v, h => by
    rw [gridN, List.mem_singleton] at h
    rw [h]; rfl
  | n + 1, v, h => by
    rw [gridN, longer] at h
    obtain ⟨r, hr, hv⟩ := List.mem_flatMap.mp h
    obtain ⟨x, _, rfl⟩ := List.mem_map.mp hv
    rw [List.length_append, rows_len n r hr]
    rfl
theorem longer_len (cs : List Vec) : (longer cs).length ≤ cs.length * 5 := by
  unfold longer
  refine flat_few fun r _ => ?_
  rw [List.length_map]
  decide
abbrev φ90 : Ph := phN (fun cs : List Vec => cs.length ≤ 1000 ∧ ∀ v ∈ cs, v.length ≤ 1000) (fun cs => [.p (.list (cs.map eV)), .p (.int 2)]) (fun cs => Is ((longer cs).map eV))
def ok90 (T : Tx K mg) : Cal P w K mg base 1 "_law_longer" ["_law_rows_here", "_law_most"] φ90 :=
  T.a90.cal fun F => fnG F c90 (fun ds Rd Rn h => by obtain ⟨d, _, rfl, _⟩ := h; rfl) fun cdv A outer s H hG hr ds Rd Rn h => by
    obtain ⟨cs, ⟨hz, hl⟩, rfl, rfl, rfl⟩ := h
    have hz : cs.length ≤ 1000 := hz
    have hl : ∀ v ∈ cs, v.length ≤ 1000 := hl
    refine ss_setN 2 (pn_lst (xs := []) ps_nil rfl (by simp)) (fun ys hys => ?_) c90.nd
    cases hys
    refine ss_for (I := fun i Γ => ∃ a b, Γ = [.d (.p (.list (cs.map eV))), .d (.p (.int 2)), .own ((longer (cs.take i)).map eV), a, b]) rfl PassesOwn.never (src_list (j := 3) (as := cs) (enc := eV) (pd_var 0)) (pg_name (i := 3) c90.nd rfl (by first | exact .inl rfl | exact .inr rfl)) ⟨.any, .any, rfl⟩ (fun i r Γ' hp hI => ?_) (fun Γ' hI => ?_)
    · obtain ⟨a, b, rfl⟩ := hI
      have hrm : r ∈ cs := List.mem_of_getElem? hp
      have enext : longer (cs.take (i + 1)) = longer (cs.take i) ++ spanR.map fun x => r ++ [x] := by
        unfold longer
        rw [List.take_add_one, hp, List.flatMap_append]
        simp
      have h1 := longer_len (cs.take i)
      have h2 : (cs.take i).length ≤ 1000 := by rw [List.length_take]; omega
      refine ss_extend 2 (xs := (longer (cs.take i)).map eV) (T := Is ((spanR.map fun x => r ++ [x]).map eV)) (pn_eq (pn_c1 (f := fun x => eV (r ++ [x])) (as := spanR) 4 c90.nd (src_range2 (lo := 0 - 2) (hi := 2 + 1) rfl T.z_range (by decide) (by decide) (by decide) (by decide) (pd_sub pd_int (pd_var 1)) (pd_add (pd_var 1) pd_int)) fun x hx _ _ _ _ _ => pdp_eq (pd_catT (xs := r.map .int) (ys := [.int x]) (pd_var 3) (pd_tup (xs := [.int x]) (ps_cons (pd_var 4) ps_nil) rfl (by simp)) (by rw [List.length_map]; have := hl r hrm; simp; omega)) (by unfold eV; rw [List.map_append]; rfl)) (by rw [List.map_map]; rfl)) (fun ys hy => ?_) (fun ys hy => ?_)
      · cases hy
        rw [List.length_map, List.length_map, List.length_map]
        have : spanR.length = 5 := by decide
        omega
      · cases hy
        refine ss_nil ⟨.d (.p (eV r)), b, ?_⟩
        rw [enext, List.map_append]
        rfl
    · obtain ⟨a, b, rfl⟩ := hI
      rw [List.take_length]
      exact ss_retO 2 rfl
theorem rows_few : ∀ n, n ≤ 3 → (gridN n).length ≤ 125 := by
  intro n hn
  have h0 : (gridN 0).length = 1 := rfl
  have h1 := longer_len (gridN 0)
  have h2 := longer_len (gridN 1)
  have h3 := longer_len (gridN 2)
  have e1 : gridN 1 = longer (gridN 0) := rfl
  have e2 : gridN 2 = longer (gridN 1) := rfl
  have e3 : gridN 3 = longer (gridN 2) := rfl
  rw [← e1] at h1
  rw [← e2] at h2
  rw [← e3] at h3
  match n, hn with
  | 0, _ => omega
  | 1, _ => omega
  | 2, _ => omega
  | 3, _ => omega
abbrev φ89 : Ph := phD (fun n : Nat => n ≤ 3) (fun n => [.p (.int n), .p (.int 2)]) (fun n => IsP (.list ((gridN n).map eV)))
def ok89 (T : Tx K mg) : Cal P w K mg base 2 "_law_rows" ["_law_many", "_law_most"] φ89 :=
  let q90 := ok90 (P := P) (w := w) (base := base) T
  T.a89.cal fun F => fnG F c89 (fun ds Rd Rn h => by obtain ⟨d, _, rfl, _⟩ := h; rfl) fun cdv A outer s H hG hr ds Rd Rn h => by
    obtain ⟨n, hn, rfl, rfl, rfl⟩ := h
    have hn : n ≤ 3 := hn
    refine ss_set 2 (d := .p (.list ((gridN 0).map eV))) (pn_d (pn_lst (xs := [.tuple []]) (ps_cons (pd_tup (xs := []) ps_nil) ps_nil) rfl (by simp))) ?_ c89.nd
    refine ss_for (I := fun i Γ => ∃ a, Γ = [.d (.p (.int n)), .d (.p (.int 2)), .d (.p (.list ((gridN i).map eV))), a]) rfl PassesOwn.never (src_range1 (j := 3) (n := n) rfl T.z_range (by omega) (pd_var 0)) (pg_name (i := 3) c89.nd rfl (.inl rfl)) ⟨.any, rfl⟩ (fun i p Γ' hp hI => ?_) (fun Γ' hI => ?_)
    · obtain ⟨a, rfl⟩ := hI
      have hi : i < n := by
        have := (List.getElem?_eq_some_iff.mp hp).1
        rwa [List.length_range] at this
      refine ss_set 2 (d := .p (.list ((gridN (i + 1)).map eV))) (pn_d (pn_c q90 ⟨gridN i, ⟨by have := rows_few i (by omega); show (gridN i).length ≤ 1000; omega, fun v hv => by have := rows_len i v hv; show v.length ≤ 1000; omega⟩, rfl, rfl, rfl⟩ hG hr (ps_cons (pd_var 2) (ps_cons (pd_var 1) ps_nil)))) (ss_nil ⟨_, rfl⟩) c89.nd
    · obtain ⟨a, rfl⟩ := hI
      rw [List.length_range]
      exact ss_ret (pd_var 2) fun d h => h
def smallL (F : Frm) : List Vec := (gridN (cellsN F)).filter fun v => nzV v && chgL F v
abbrev φ91 : Ph := phN (fun F : Frm => GF F) (fun F => [.p (eF F)]) (fun F => Is ((smallL F).map eV))
def ok91 (T : Tx K mg) : Cal P w K mg base 3 "_law_small" ["_law_frame"] φ91 :=
  let q89 := ok89 (P := P) (w := w) (base := base) T
  let q80 := ok80 (P := P) (w := w) (base := base) T
  T.a91.cal fun F => fnG F c91 (fun ds Rd Rn h => by obtain ⟨d, _, rfl, _⟩ := h; rfl) fun cdv A outer s H hG hr ds Rd Rn h => by
    obtain ⟨F, g, rfl, rfl, rfl⟩ := h
    have g : GF F := g
    obtain ⟨r, R, rfl⟩ := g.cons
    have hc : cellsN (r :: R) ≤ 3 := g.cells.2
    exact ss_retN (pn_c1T (f := eV) (t := fun v => nzV v && chgL (r :: R) v) (as := gridN (cellsN (r :: R))) 1 c91.nd (src_list (enc := eV) (pd_c q89 ⟨cellsN (r :: R), hc, rfl, rfl, rfl⟩ hG hr (ps_cons (pdp_eq (pd_lenT (xs := r.map .int) T.z_len (pd_ixT (xs := eV r :: R.map eV) (pd_ixT (pd_var 0) pd_int at1) pd_int at0)) (by rw [List.length_map]; rfl)) (ps_cons pd_int ps_nil)))) (fun v hv _ _ _ _ _ => PW.pt (pwb_and (pt_b (pd_anyV T.z_any (pd_var 1))) fun _ => pwb_one (pt_b (pd_c q80 ⟨(r :: R, v), g, rfl, rfl, rfl⟩ hG hr (ps_cons (pd_var 0) (ps_cons (pd_var 1) ps_nil)))))) fun v hv _ _ _ _ _ _ => pd_var 1) fun d h => h
inductive DrawnP (L : List Vec) : List Vec → Prop
  | two {a : Vec} (h : a ∈ L) : DrawnP L [a, negV a]
  | three {a b : Vec} (ha : a ∈ L) (hb : b ∈ L) (h : nzV (negV (addV a b)) = true) : DrawnP L [a, b, negV (addV a b)]
abbrev φ92 : Ph := phN (fun L : List Vec => 0 < L.length ∧ L.length < 1073741824) (fun L => [.pot, .p (.list (L.map eV))]) (fun L xs => ∃ cs, DrawnP L cs ∧ xs = cs.map eV)
def ok92 (T : Tx K mg) : Cal P w K mg base 3 "_law_drawn_pattern" ["_law_pot_here", "_law_some"] φ92 :=
  let q76 := ok76 (P := P) (w := w) (base := base) T
  let q77 := ok77 (P := P) (w := w) (base := base) T
  let q81 := ok81 (P := P) (w := w) (base := base) T
  let q82 := ok82 (P := P) (w := w) (base := base) T
  T.a92.cal fun F => fnG F c92 (fun ds Rd Rn h => by obtain ⟨d, _, rfl, _⟩ := h; rfl) fun cdv A outer s H hG hr ds Rd Rn h => by
    obtain ⟨L, hL, rfl, rfl, rfl⟩ := h
    have hL : 0 < L.length ∧ L.length < 1073741824 := hL
    have hL2 : 0 < (L.map eV).length ∧ (L.map eV).length < 1073741824 := by rw [List.length_map]; exact hL
    refine ss_par2 2 3 rfl (pv_d (pd_c q77 ⟨L.map eV, hL2, rfl, rfl, rfl⟩ hG hr (ps_cons (pd_var 0) (ps_cons (pd_var 1) ps_nil)))) (pv_d (pd_c q77 ⟨L.map eV, hL2, rfl, rfl, rfl⟩ hG hr (ps_cons (pd_var 0) (ps_cons (pd_var 1) ps_nil)))) (fun x y hx hy => ?_) c92.nd
    obtain ⟨d, ⟨d', hd', rfl⟩, rfl⟩ := hx
    obtain ⟨a, ha, rfl⟩ := List.mem_map.mp hd'
    obtain ⟨d, ⟨d', hd', rfl⟩, rfl⟩ := hy
    obtain ⟨b, hb, rfl⟩ := List.mem_map.mp hd'
    refine ss_set 4 (pd_c q82 ⟨addV a b, trivial, rfl, rfl, rfl⟩ hG (hr.mono (by decide)) (ps_cons (pd_c q81 ⟨(a, b), trivial, rfl, rfl, rfl⟩ hG (hr.mono (by decide)) (ps_cons (pd_var 2) (ps_cons (pd_var 3) ps_nil))) ps_nil)) ?_ c92.nd
    refine ss_if (T := fun r => r = false → nzV (negV (addV a b)) = true) (C := fun Γ => nzV (negV (addV a b)) = true ∧ Γ = [.d .pot, .d (.p (.list (L.map eV))), .d (.p (eV a)), .d (.p (eV b)), .d (.p (eV (negV (addV a b))))]) (PW.pt (pwb_or (Ta := fun _ => True) (Tb := Is (!nzV (negV (addV a b)))) (ptc_eqIS hr (pd_draw (k := 1) T q76 hG hr (by decide) (by decide) (pd_var 0) pd_int) pd_int) (pwb_oneO (ptb_not1 (pt_b (pd_anyV T.z_any (pd_var 4))))) (fun _ z => by cases z) fun x _ hx z => by cases hx; exact nb' z)) (fun _ => ?_) (fun h => ss_nil ⟨h rfl, rfl⟩) (fun Γ' hC => ?_)
    · exact ss_retN (pn_lst (xs := [eV a, eV (negV a)]) (ps_cons (pd_var 2) (ps_cons (pd_c q82 ⟨a, trivial, rfl, rfl, rfl⟩ hG (hr.mono (by decide)) (ps_cons (pd_var 2) ps_nil)) ps_nil)) rfl (by simp)) fun d h => ⟨[a, negV a], .two ha, h⟩
    · obtain ⟨hnz, rfl⟩ := hC
      exact ss_retN (pn_lst (xs := [eV a, eV b, eV (negV (addV a b))]) (ps_cons (pd_var 2) (ps_cons (pd_var 3) (ps_cons (pd_var 4) ps_nil))) rfl (by simp)) fun d h => ⟨[a, b, negV (addV a b)], .three ha hb hnz, h⟩
end
end K62
/-! plain: what a put may come to -/
namespace K62
open PySem PySem.Spec PyProof.Rows L2
abbrev Pl := Nat × Vec
def st1 (s : Stk) (x : Pl) : Stk := s.set x.1 (addV (s.getD x.1 []) x.2)
def app (s : Stk) (ps : List Pl) : Stk := ps.foldl st1 s
abbrev okP (s : Stk) (x : Pl) : Prop := okV (addV (s.getD x.1 []) x.2) = true
structure Pls (s : Stk) (ps : List Pl) : Prop where
  nd : (ps.map (·.1)).Nodup
  lt : ∀ x ∈ ps, x.1 < s.length
  ok : ∀ x ∈ ps, okP s x
theorem st1_len (s : Stk) (x : Pl) : (st1 s x).length = s.length := List.length_set
theorem st1_get {s : Stk} {x : Pl} {l : Nat} (h : x.1 ≠ l) : (st1 s x).getD l [] = s.getD l [] := by
  unfold st1
  rw [List.getD_eq_getElem?_getD, List.getElem?_set_ne h, List.getD_eq_getElem?_getD]
theorem app_get {l : Nat} : ∀ {ps : List Pl} {s : Stk}, l ∉ ps.map (·.1) → (app s ps).getD l [] = s.getD l []
  | [], s, _ => rfl
  | x :: ps, s, h => by
    rw [List.map_cons, List.mem_cons, not_or] at h
    show (app (st1 s x) ps).getD l [] = _
    rw [app_get h.2, st1_get (fun e => h.1 e.symm)]
theorem app_len : ∀ {ps : List Pl} {s : Stk}, (app s ps).length = s.length
  | [], _ => rfl
  | x :: ps, s => by
    show (app (st1 s x) ps).length = _
    rw [app_len, st1_len]
theorem app_snoc (s : Stk) (ps : List Pl) (x : Pl) : app s (ps ++ [x]) = st1 (app s ps) x := by
  unfold app
  rw [List.foldl_append]
  rfl
theorem st1_comm {s : Stk} {x y : Pl} (h : x.1 ≠ y.1) : st1 (st1 s x) y = st1 (st1 s y) x := by
  have h1 := st1_get (s := s) h
  have h2 := st1_get (s := s) (Ne.symm h)
  unfold st1 at h1 h2 ⊢
  rw [h1, h2, List.set_comm _ _ h]
theorem app_perm {ps qs : List Pl} (h : ps.Perm qs) : ∀ s : Stk, (ps.map (·.1)).Nodup → app s ps = app s qs := by
  induction h with
  | nil => intro s _; rfl
  | cons x _ ih =>
    intro s nd
    rw [List.map_cons, List.nodup_cons] at nd
    exact ih (st1 s x) nd.2
  | swap x y l =>
    intro s nd
    rw [List.map_cons, List.map_cons, List.nodup_cons, List.mem_cons, not_or] at nd
    show app (st1 (st1 s y) x) l = app (st1 (st1 s x) y) l
    rw [st1_comm nd.1.1]
  | trans h1 _ ih1 ih2 =>
    intro s nd
    rw [ih1 s nd, ih2 s ((h1.map _).nodup_iff.mp nd)]
/-- by a choice of layers -/
def Put1 (s : Stk) (cs : List Vec) (t : Stk) : Prop := ∃ ps : List Pl, Pls s ps ∧ (ps.map (·.2)).Perm cs ∧ t = app s ps
theorem Pls.perm {s : Stk} {ps qs : List Pl} (h : Pls s ps) (p : ps.Perm qs) : Pls s qs :=
  ⟨(p.map _).nodup_iff.mp h.nd, fun x hx => h.lt x (p.mem_iff.mpr hx), fun x hx => h.ok x (p.mem_iff.mpr hx)⟩
theorem perm_lift {α β : Type} {f : α → β} {l cs : List β} (h : l.Perm cs) : ∀ ps : List α, ps.map f = l → ∃ qs, ps.Perm qs ∧ qs.map f = cs := by
  induction h with
  | nil =>
    intro ps e
    exact ⟨ps, .refl _, e⟩
  | cons x _ ih =>
    intro ps e
    cases ps with
    | nil => cases e
    | cons p ps =>
      rw [List.map_cons, List.cons.injEq] at e
      obtain ⟨qs, h1, h2⟩ := ih ps e.2
      exact ⟨p :: qs, h1.cons p, by rw [List.map_cons, e.1, h2]⟩
  | swap x y l =>
    intro ps e
    cases ps with
    | nil => cases e
    | cons p ps =>
      cases ps with
      | nil => cases e
      | cons q ps =>
        rw [List.map_cons, List.map_cons, List.cons.injEq, List.cons.injEq] at e
        exact ⟨q :: p :: ps, List.Perm.swap _ _ _, by rw [List.map_cons, List.map_cons, e.1, e.2.1, e.2.2]⟩
  | trans _ _ ih1 ih2 =>
    intro ps e
    obtain ⟨qs, h1, h2⟩ := ih1 ps e
    obtain ⟨rs, h3, h4⟩ := ih2 qs h2
    exact ⟨rs, h1.trans h3, h4⟩
theorem lawPut_iff {t : Stk} : ∀ {cs : List Vec} {s : Stk} {free : List Nat}, (∀ a ∈ free, a < s.length) → (t ∈ lawPut cs s free ↔ ∃ ps, Pls s ps ∧ (∀ x ∈ ps, x.1 ∈ free) ∧ ps.map (·.2) = cs ∧ t = app s ps)
  | [], s, free, _ => by
    rw [lawPut, List.mem_singleton]
    constructor
    · intro h
      exact ⟨[], ⟨List.nodup_nil, fun x hx => (by cases hx), fun x hx => (by cases hx)⟩, fun x hx => (by cases hx), rfl, h⟩
    · rintro ⟨ps, _, _, e, h⟩
      have : ps = [] := List.map_eq_nil_iff.mp e
      rw [this] at h
      exact h
  | c :: cs, s, free, hlt => by
    rw [lawPut, List.mem_flatMap]
    have hlt2 : ∀ a, ∀ l ∈ (free.filter fun l => !decide (l = a)), l < (s.set a (addV (s.getD a []) c)).length := fun a l hl => by
      rw [List.length_set]
      exact hlt l (List.mem_filter.mp hl).1
    constructor
    · rintro ⟨a, ha, ht⟩
      split at ht
      · rename_i hok
        obtain ⟨ps, P, hf, e, et⟩ := (lawPut_iff (hlt2 a)).mp ht
        have hne : ∀ x ∈ ps, x.1 ≠ a := fun x hx => by
          have := (List.mem_filter.mp (hf x hx)).2
          intro z
          rw [z] at this
          simp at this
        refine ⟨(a, c) :: ps, ⟨?_, fun x hx => ?_, fun x hx => ?_⟩, fun x hx => ?_, by rw [List.map_cons, e], et⟩
        · rw [List.map_cons, List.nodup_cons]
          refine ⟨fun z => ?_, P.nd⟩
          obtain ⟨x, hx, ex⟩ := List.mem_map.mp z
          exact hne x hx ex
        · rcases List.mem_cons.mp hx with z | z
          · rw [z]; exact hlt a ha
          · have := P.lt x z
            rwa [List.length_set] at this
        · rcases List.mem_cons.mp hx with z | z
          · rw [z]; exact hok
          · have := P.ok x z
            unfold okP at this ⊢
            have e1 := st1_get (s := s) (x := (a, c)) (l := x.1) (fun w => hne x z w.symm)
            unfold st1 at e1
            rw [e1] at this
            exact this
        · rcases List.mem_cons.mp hx with z | z
          · rw [z]; exact ha
          · exact (List.mem_filter.mp (hf x z)).1
      · cases ht
    · rintro ⟨ps, P, hf, e, et⟩
      cases ps with
      | nil => cases e
      | cons x ps =>
        obtain ⟨a, c'⟩ := x
        rw [List.map_cons, List.cons.injEq] at e
        obtain ⟨rfl, e⟩ := e
        have nd := P.nd
        rw [List.map_cons, List.nodup_cons] at nd
        have hne : ∀ x ∈ ps, x.1 ≠ a := fun x hx z => nd.1 (List.mem_map.mpr ⟨x, hx, z⟩)
        have hok : okV (addV (s.getD a []) c') = true := P.ok (a, c') List.mem_cons_self
        refine ⟨a, hf (a, c') List.mem_cons_self, ?_⟩
        rw [if_pos hok]
        refine (lawPut_iff (hlt2 a)).mpr ⟨ps, ⟨nd.2, fun x hx => ?_, fun x hx => ?_⟩, fun x hx => ?_, e, et⟩
        · rw [List.length_set]
          exact P.lt x (List.mem_cons_of_mem _ hx)
        · have := P.ok x (List.mem_cons_of_mem _ hx)
          unfold okP at this ⊢
          have e1 := st1_get (s := s) (x := (a, c')) (l := x.1) (fun w => hne x hx w.symm)
          unfold st1 at e1
          rw [e1]
          exact this
        · refine List.mem_filter.mpr ⟨hf x (List.mem_cons_of_mem _ hx), ?_⟩
          simp [hne x hx]
theorem putR_iff {s t : Stk} {cs : List Vec} : t ∈ putR s cs ↔ Put1 s cs t := by
  rw [lawPut_iff fun a ha => List.mem_range.mp ha]
  constructor
  · rintro ⟨ps, P, _, e, et⟩
    exact ⟨ps, P, by rw [e], et⟩
  · rintro ⟨ps, P, e, et⟩
    obtain ⟨qs, h1, h2⟩ := perm_lift e ps rfl
    exact ⟨qs, P.perm h1, fun x hx => List.mem_range.mpr ((P.perm h1).lt x hx), h2, by rw [et, app_perm h1 s P.nd]⟩
theorem Put1.perm {s t : Stk} {cs ds : List Vec} (h : Put1 s cs t) (p : cs.Perm ds) : Put1 s ds t := by
  obtain ⟨ps, P, e, et⟩ := h
  exact ⟨ps, P, e.trans p, et⟩
/-- layers rise where changes are the same -/
def Asc (ps : List Pl) : Prop := ∀ k x y, ps[k]? = some x → ps[k + 1]? = some y → x.2 = y.2 → x.1 < y.1
theorem places_mem {n l : Nat} {same : Bool} {u : List Nat} : l ∈ placesN n same u ↔ begN same u ≤ l ∧ l < n := by
  constructor
  · exact places_lt
  · intro h
    exact List.mem_map.mpr ⟨l - begN same u, List.mem_range.mpr (by omega), by omega⟩
theorem last_get {ps : List Pl} {x : Pl} {k : Nat} (hk : k + 1 = ps.length) (hx : ps[k]? = some x) : (ps.map (·.1)).getLastD 0 = x.1 := by
  rw [List.getLastD_eq_getLast?, List.getLast?_eq_getElem?, List.length_map]
  have : ps.length - 1 = k := by omega
  rw [this, List.getElem?_map, hx]
  rfl
theorem putUpto_iff {s : Stk} {cs : List Vec} : ∀ {i : Nat}, i ≤ cs.length → ∀ x : UH, x ∈ putUpto s cs i ↔ ∃ ps, Pls s ps ∧ ps.map (·.2) = cs.take i ∧ Asc ps ∧ x = (ps.map (·.1), app s ps)
  | 0, _, x => by
    rw [putUpto, List.mem_singleton]
    constructor
    · intro h
      exact ⟨[], ⟨List.nodup_nil, fun x hx => (by cases hx), fun x hx => (by cases hx)⟩, rfl, fun k x y h => (by simp at h), h⟩
    · rintro ⟨ps, _, e, _, h⟩
      have : ps = [] := List.map_eq_nil_iff.mp e
      rw [this] at h
      exact h
  | i + 1, hi, x => by
    have hci : cs[i]? = some (cs.getD i []) := by rw [List.getD_eq_getElem?_getD, List.getElem?_eq_getElem (by omega)]; rfl
    have etake : cs.take (i + 1) = cs.take i ++ [cs.getD i []] := by rw [List.take_add_one, hci]; rfl
    have hsame : ∀ {ps : List Pl}, ps.map (·.2) = cs.take i → ∀ k a, k + 1 = i → ps[k]? = some a → (sameN cs i = true ↔ a.2 = cs.getD i []) := fun {ps} e k a hk ha => by
      have h1 : (ps.map (·.2))[k]? = some a.2 := by rw [List.getElem?_map, ha]; rfl
      rw [e, List.getElem?_take_of_lt (by omega)] at h1
      unfold sameN
      have h2 : cs.getD (i - 1) [] = a.2 := by
        have : i - 1 = k := by omega
        rw [this, List.getD_eq_getElem?_getD, h1]
        rfl
      rw [h2, Bool.and_eq_true]
      constructor
      · intro h; exact of_decide_eq_true h.2
      · intro h; exact ⟨decide_eq_true (by omega), decide_eq_true h⟩
    rw [putUpto, List.mem_flatMap]
    constructor
    · rintro ⟨y, hy, hx⟩
      obtain ⟨ps, P, e, asc, rfl⟩ := (putUpto_iff (i := i) (by omega) y).mp hy
      obtain ⟨l, hl, hx⟩ := List.mem_filterMap.mp hx
      obtain ⟨hb, hln⟩ := places_mem.mp hl
      have hpl : ps.length = i := by
        have := congrArg List.length e
        rw [List.length_map, List.length_take] at this
        omega
      unfold ext1 at hx
      split at hx
      · cases hx
      · rename_i hnm
        have hnm : l ∉ ps.map (·.1) := hnm
        rw [app_get hnm] at hx
        split at hx
        · rename_i hok
          cases hx
          refine ⟨ps ++ [(l, cs.getD i [])], ⟨?_, fun x hx => ?_, fun x hx => ?_⟩, by rw [List.map_append, e, etake]; rfl, fun k a b ha hb' hab => ?_, ?_⟩
          · rw [List.map_append, List.nodup_append]
            refine ⟨P.nd, by simp, fun a ha b hb e => ?_⟩
            rw [List.map_cons, List.map_nil, List.mem_singleton] at hb
            rw [e, hb] at ha
            exact hnm ha
          · rcases List.mem_append.mp hx with z | z
            · exact P.lt x z
            · rw [List.mem_singleton.mp z]; exact hln
          · rcases List.mem_append.mp hx with z | z
            · exact P.ok x z
            · rw [List.mem_singleton.mp z]; exact hok
          · rcases Nat.lt_or_ge (k + 1) ps.length with z | z
            · rw [List.getElem?_append_left (by omega)] at ha
              rw [List.getElem?_append_left z] at hb'
              exact asc k a b ha hb' hab
            · have hk2 : k + 1 < (ps ++ [(l, cs.getD i [])]).length := (List.getElem?_eq_some_iff.mp hb').1
              rw [List.length_append, List.length_singleton] at hk2
              have hk3 : k + 1 = ps.length := by omega
              rw [List.getElem?_append_left (by omega)] at ha
              rw [List.getElem?_append_right z] at hb'
              have : k + 1 - ps.length = 0 := by omega
              rw [this] at hb'
              cases hb'
              have hsm := (hsame e k a (by omega) ha).mpr hab
              unfold begN at hb
              rw [if_pos hsm, last_get hk3 ha] at hb
              show a.1 < l
              omega
          · rw [List.map_append, app_snoc]
            unfold st1
            rw [app_get hnm]
            rfl
        · cases hx
    · rintro ⟨ps', P, e, asc, rfl⟩
      have hpl : ps'.length = i + 1 := by
        have := congrArg List.length e
        rw [List.length_map, List.length_take] at this
        omega
      rcases List.eq_nil_or_concat ps' with z | ⟨ps, last, z⟩
      · rw [z] at hpl
        simp at hpl
      · rw [List.concat_eq_append] at z
        subst z
        obtain ⟨l, c⟩ := last
        rw [List.length_append, List.length_singleton] at hpl
        rw [List.map_append, etake] at e
        obtain ⟨e, ec⟩ := List.append_inj e (by rw [List.length_map, List.length_take]; omega)
        have ec : c = cs.getD i [] := by
          have := congrArg List.head? ec
          exact Option.some.inj this
        have nd := P.nd
        rw [List.map_append, List.nodup_append] at nd
        have hnm : l ∉ ps.map (·.1) := fun z => nd.2.2 l z l (by simp) rfl
        refine ⟨(ps.map (·.1), app s ps), (putUpto_iff (i := i) (by omega) _).mpr ⟨ps, ⟨nd.1, fun x hx => P.lt x (List.mem_append_left _ hx), fun x hx => P.ok x (List.mem_append_left _ hx)⟩, e, fun k a b ha hb hab => ?_, rfl⟩, ?_⟩
        · have hk : k + 1 < ps.length := (List.getElem?_eq_some_iff.mp hb).1
          exact asc k a b (by rw [List.getElem?_append_left (by omega)]; exact ha) (by rw [List.getElem?_append_left hk]; exact hb) hab
        · refine List.mem_filterMap.mpr ⟨l, places_mem.mpr ⟨?_, P.lt (l, c) (List.mem_append_right _ (List.mem_singleton.mpr rfl))⟩, ?_⟩
          · show begN (sameN cs i) (ps.map (·.1)) ≤ l
            unfold begN
            split
            · rename_i hsm
              have hi0 : 0 < i := by
                unfold sameN at hsm
                rw [Bool.and_eq_true] at hsm
                exact of_decide_eq_true hsm.1
              obtain ⟨a, ha⟩ : ∃ a, ps[i - 1]? = some a := ⟨_, List.getElem?_eq_getElem (by omega)⟩
              have hab := (hsame e (i - 1) a (by omega) ha).mp hsm
              rw [last_get (by omega) ha]
              have hlast : (ps ++ [(l, c)])[i - 1 + 1]? = some (l, c) := by
                rw [List.getElem?_append_right (by omega)]
                have : i - 1 + 1 - ps.length = 0 := by omega
                rw [this]
                rfl
              have := asc (i - 1) a (l, c) (by rw [List.getElem?_append_left (by omega)]; exact ha) hlast (by rw [hab, ec])
              show a.1 + 1 ≤ l
              exact this
            · omega
          · unfold ext1
            have hok : okV (addV (s.getD l []) (cs.getD i [])) = true := by
              have := P.ok (l, c) (List.mem_append_right _ (List.mem_singleton.mpr rfl))
              rw [← ec]
              exact this
            show (if l ∈ ps.map (·.1) then none else if okV (addV ((app s ps).getD l []) (cs.getD i [])) = true then some (ps.map (·.1) ++ [l], (app s ps).set l (addV ((app s ps).getD l []) (cs.getD i []))) else none) = _
            rw [if_neg hnm, app_get hnm, if_pos hok, List.map_append, app_snoc]
            unfold st1
            rw [app_get hnm, ec]
            rfl
/-- the order of placings -/
def leP (x y : Pl) : Bool := if x.2 = y.2 then decide (x.1 ≤ y.1) else leE eV x.2 y.2
theorem leP_total (x y : Pl) : leP x y = true ∨ leP y x = true := by
  unfold leP
  by_cases h : x.2 = y.2
  · rw [if_pos h, if_pos h.symm]
    rcases Nat.le_total x.1 y.1 with z | z
    · exact .inl (decide_eq_true z)
    · exact .inr (decide_eq_true z)
  · rw [if_neg h, if_neg (Ne.symm h)]
    exact (leE_total eV).total _ _
theorem leP_V {x y : Pl} (h : leP x y = true) : leE eV x.2 y.2 = true := by
  unfold leP at h
  by_cases e : x.2 = y.2
  · rw [e]; exact (leE_total eV).refl _
  · rw [if_neg e] at h; exact h
theorem leP_trans (x y z : Pl) (h1 : leP x y = true) (h2 : leP y z = true) : leP x z = true := by
  have v1 := leP_V h1
  have v2 := leP_V h2
  by_cases e : x.2 = z.2
  · have e1 : x.2 = y.2 := antiV.eq _ _ v1 (by rw [e]; exact v2)
    unfold leP at h1 h2 ⊢
    rw [if_pos e]
    rw [if_pos e1] at h1
    rw [if_pos (e1.symm.trans e)] at h2
    have := of_decide_eq_true h1
    have := of_decide_eq_true h2
    exact decide_eq_true (by omega)
  · unfold leP
    rw [if_neg e]
    exact (leE_total eV).trans _ _ _ v1 v2
theorem pkgPut_iff {s t : Stk} {cs : List Vec} (hs : cs.Pairwise (fun a b => leE eV a b = true)) : t ∈ pkgPut s cs ↔ Put1 s cs t := by
  unfold pkgPut
  rw [List.mem_map]
  constructor
  · rintro ⟨x, hx, rfl⟩
    obtain ⟨ps, P, e, _, rfl⟩ := (putUpto_iff (Nat.le_refl _) x).mp hx
    rw [List.take_length] at e
    exact ⟨ps, P, by rw [e], rfl⟩
  · rintro ⟨ps, P, e, et⟩
    obtain ⟨qs, eq⟩ : ∃ qs, qs = ps.mergeSort leP := ⟨_, rfl⟩
    have hp : ps.Perm qs := by rw [eq]; exact (List.mergeSort_perm _ _).symm
    have hpw : qs.Pairwise (fun a b => leP a b = true) := by
      rw [eq]
      exact List.pairwise_mergeSort (fun a b c => leP_trans a b c) (fun a b => by
        rcases leP_total a b with h | h
        · rw [h]; rfl
        · rw [h]; simp) ps
    have Q := P.perm hp
    have e2 : qs.map (·.2) = cs := order_one antiV (((hp.map _).symm).trans e) (List.pairwise_map.mpr (hpw.imp fun h => leP_V h)) hs
    refine ⟨(qs.map (·.1), app s qs), (putUpto_iff (Nat.le_refl _) _).mpr ⟨qs, Q, by rw [List.take_length]; exact e2, fun k x y hx hy hxy => ?_, rfl⟩, by rw [et, app_perm hp s P.nd]⟩
    have hk : k + 1 < qs.length := (List.getElem?_eq_some_iff.mp hy).1
    have h1 : qs[k] = x := (List.getElem?_eq_some_iff.mp hx).2
    have h2 : qs[k + 1] = y := (List.getElem?_eq_some_iff.mp hy).2
    have h3 := List.pairwise_iff_getElem.mp hpw k (k + 1) (by omega) hk (by omega)
    rw [h1, h2] at h3
    unfold leP at h3
    rw [if_pos hxy] at h3
    have h3 := of_decide_eq_true h3
    have hne : x.1 ≠ y.1 := fun z => by
      have n1 := List.pairwise_iff_getElem.mp Q.nd k (k + 1) (by rw [List.length_map]; omega) (by rw [List.length_map]; omega) (by omega)
      rw [List.getElem_map, List.getElem_map, h1, h2] at n1
      exact n1 z
    omega
theorem Put1.few {s t : Stk} {cs : List Vec} (h : Put1 s cs t) : cs.length ≤ s.length := by
  obtain ⟨ps, P, e, _⟩ := h
  have h1 := nodup_len (m := List.range s.length) P.nd fun x hx => by
    obtain ⟨y, hy, rfl⟩ := List.mem_map.mp hx
    exact List.mem_range.mpr (P.lt y hy)
  have h2 := e.length_eq
  rw [List.length_map] at h1 h2
  rw [List.length_range] at h1
  omega
theorem sorted_pat {p : Stk} (h : patBy p = p) : p.Pairwise (fun a b => leE eV a b = true) := by
  rw [← h]
  unfold patBy minS turn
  split
  · exact sort_pw _ _
  · exact sort_pw _ _
theorem lawOf_iff {s p t : Stk} (h : patBy p = p) : t ∈ lawOf s p ↔ t ∈ pkgOf s p := by
  have hp := sorted_pat h
  have hturn : (turn p).Pairwise (fun a b => leE eV a b = true) := sort_pw _ _
  have hperm : (turn p).Perm (p.map negV) := List.mergeSort_perm _ _
  unfold lawOf pkgOf
  rw [List.mem_append, putR_iff, putR_iff]
  by_cases hl : p.length ≤ s.length
  · rw [if_pos hl, List.mem_append, pkgPut_iff hp]
    by_cases ht : turn p = p
    · rw [if_pos ht]
      rw [ht] at hperm
      constructor
      · rintro (z | z)
        · exact .inl z
        · exact .inl (z.perm hperm.symm)
      · rintro (z | z)
        · exact .inl z
        · cases z
    · rw [if_neg ht, pkgPut_iff hturn]
      constructor
      · rintro (z | z)
        · exact .inl z
        · exact .inr (z.perm hperm.symm)
      · rintro (z | z)
        · exact .inl z
        · exact .inr (z.perm hperm)
  · rw [if_neg hl]
    constructor
    · rintro (z | z)
      · exact absurd z.few hl
      · have := z.few
        rw [List.length_map] at this
        exact absurd this hl
    · intro z
      cases z
theorem lawSteps_eq {b : List Stk} {s : Stk} (h : ∀ p ∈ b, patBy p = p) : setS (lawFound b s) = stepsB b s := by
  refine setS_same fun t => ?_
  unfold lawFound pkgFound
  rw [List.mem_flatMap, List.mem_flatMap]
  constructor
  · rintro ⟨p, hp, ht⟩
    exact ⟨p, hp, (lawOf_iff (h p hp)).mp ht⟩
  · rintro ⟨p, hp, ht⟩
    exact ⟨p, hp, (lawOf_iff (h p hp)).mpr ht⟩
theorem mem_steps {b : List Stk} {s t : Stk} (h : ∀ p ∈ b, patBy p = p) : t ∈ stepsB b s ↔ ∃ p ∈ b, Put1 s p t ∨ Put1 s (p.map negV) t := by
  rw [← lawSteps_eq h, setS_mem]
  unfold lawFound
  rw [List.mem_flatMap]
  constructor
  · rintro ⟨p, hp, ht⟩
    unfold lawOf at ht
    rw [List.mem_append, putR_iff, putR_iff] at ht
    exact ⟨p, hp, ht⟩
  · rintro ⟨p, hp, ht⟩
    refine ⟨p, hp, ?_⟩
    unfold lawOf
    rw [List.mem_append, putR_iff, putR_iff]
    exact ht
end K62
/-! plain: a step is a put -/
namespace K62
open PySem PySem.Spec PyProof.Rows L2
theorem negneg (v : Vec) : negV (negV v) = v := by
  unfold negV
  rw [List.map_map]
  have : ((fun x : Int => -x) ∘ fun x => -x) = id := by funext x; simp
  rw [this, List.map_id]
theorem map_negneg (p : List Vec) : (p.map negV).map negV = p := by
  rw [List.map_map]
  have : (negV ∘ negV) = id := by funext x; exact negneg x
  rw [this, List.map_id]
theorem turn_perm (p : Stk) : (turn p).Perm (p.map negV) := List.mergeSort_perm _ _
theorem turn_of_perm {p q : List Vec} (h : p.Perm q) : turn p = turn q := sort_perm eV antiV (h.map _)
theorem turn_sort (cs : List Vec) : turn (sortV cs) = sortV (cs.map negV) := sort_perm eV antiV ((List.mergeSort_perm cs _).map _)
theorem turn_turn (cs : List Vec) : turn (turn cs) = sortV cs := by
  show sortV ((turn cs).map negV) = sortV cs
  refine sort_perm eV antiV ?_
  have := (turn_perm cs).map negV
  rw [map_negneg] at this
  exact this
theorem patBy_perm {p q : List Vec} (h : p.Perm q) : patBy p = patBy q := by
  unfold patBy
  rw [show sortV p = sortV q from sort_perm eV antiV h]
theorem lt_anti {a b : Stk} (h1 : PySem.W.dataLt (eS a) (eS b) = false) (h2 : PySem.W.dataLt (eS b) (eS a) = false) : a = b := by
  have := lt_no (alike_S a b) h1 h2
  rw [eqv_S] at this
  exact of_decide_eq_true this
theorem lt_asymm {a b : Stk} (h : PySem.W.dataLt (eS a) (eS b) = true) : PySem.W.dataLt (eS b) (eS a) = false := by
  rcases (leE_total eS).total a b with z | z
  · rw [leE_def, Bool.not_eq_true'] at z
    exact z
  · rw [leE_def, h] at z
    cases z
theorem minS_comm (a b : Stk) : minS a b = minS b a := by
  unfold minS
  cases h1 : PySem.W.dataLt (eS b) (eS a) with
  | true =>
    rw [lt_asymm h1, if_pos rfl, if_neg (by decide)]
  | false =>
    cases h2 : PySem.W.dataLt (eS a) (eS b) with
    | true => rw [if_pos rfl, if_neg (by decide)]
    | false => rw [if_neg (by decide), if_neg (by decide)]; exact lt_anti h2 h1
theorem minS_or (a b : Stk) : minS a b = a ∨ minS a b = b := by
  unfold minS
  split
  · exact .inr rfl
  · exact .inl rfl
theorem patBy_neg (cs : List Vec) : patBy (cs.map negV) = patBy cs := by
  unfold patBy
  rw [← turn_sort cs, turn_turn, show sortV (sortV cs) = sortV cs from sort_same eV antiV (sort_pw _ _), minS_comm]
theorem patBy_turn (cs : List Vec) : patBy (turn cs) = patBy cs := by
  rw [patBy_perm (turn_perm cs), patBy_neg]
theorem patBy_idem (cs : List Vec) : patBy (patBy cs) = patBy cs := by
  rcases minS_or (sortV cs) (turn (sortV cs)) with h | h
  · have : patBy cs = sortV cs := h
    rw [this, patBy_perm (List.mergeSort_perm cs _), this]
  · have : patBy cs = turn (sortV cs) := h
    rw [this, patBy_turn, patBy_perm (List.mergeSort_perm cs _), this]
theorem patL_eq (cs : List Vec) : patL cs = patBy cs := by
  unfold patL patBy
  rw [turn_sort]
theorem patBy_or (cs : List Vec) : (patBy cs).Perm cs ∨ (patBy cs).Perm (cs.map negV) := by
  rcases minS_or (sortV cs) (turn (sortV cs)) with h | h
  · exact .inl ((show patBy cs = sortV cs from h) ▸ List.mergeSort_perm cs _)
  · refine .inr ?_
    have e : patBy cs = turn (sortV cs) := h
    rw [e, turn_sort]
    exact List.mergeSort_perm _ _
theorem pat_iff {p ds : List Vec} (hp : patBy p = p) : patBy ds = p ↔ ds.Perm p ∨ ds.Perm (p.map negV) := by
  constructor
  · intro h
    rcases patBy_or ds with z | z
    · rw [h] at z; exact .inl z.symm
    · rw [h] at z
      have := z.map negV
      rw [map_negneg] at this
      exact .inr this.symm
  · rintro (z | z)
    · rw [patBy_perm z, hp]
    · rw [patBy_perm z, patBy_neg, hp]
/-! ### differences -/
theorem subV_add {t c : Vec} (h : c.length = t.length) : subV t (addV t c) = c := by
  induction t generalizing c with
  | nil => cases c with
    | nil => rfl
    | cons => simp at h
  | cons x t ih => cases c with
    | nil => simp at h
    | cons y c =>
      rw [List.length_cons, List.length_cons] at h
      have := ih (c := c) (by omega)
      unfold subV addV at this ⊢
      rw [List.zip_cons_cons, List.map_cons, List.zip_cons_cons, List.map_cons, this]
      congr 1
      show x + y - x = y
      omega
theorem add_sub {t u : Vec} (h : u.length = t.length) : addV t (subV t u) = u := by
  induction t generalizing u with
  | nil => cases u with
    | nil => rfl
    | cons => simp at h
  | cons x t ih => cases u with
    | nil => simp at h
    | cons y u =>
      rw [List.length_cons, List.length_cons] at h
      have := ih (u := u) (by omega)
      unfold subV addV at this ⊢
      rw [List.zip_cons_cons, List.map_cons, List.zip_cons_cons, List.map_cons, this]
      congr 1
      show x + (y - x) = y
      omega
theorem sub_self (t : Vec) : nzV (subV t t) = false := by
  unfold nzV subV
  rw [List.any_map]
  refine List.any_eq_false.mpr fun p hp => ?_
  obtain ⟨a, b⟩ := p
  have : a = b := by
    induction t with
    | nil => cases hp
    | cons x t ih =>
      rw [List.zip_cons_cons] at hp
      rcases List.mem_cons.mp hp with z | z
      · cases z; rfl
      · exact ih z
  subst this
  simp
theorem add_zero {t u : Vec} (h : u.length = t.length) (hz : nzV (subV t u) = false) : u = t := by
  induction t generalizing u with
  | nil => cases u with
    | nil => rfl
    | cons => simp at h
  | cons x t ih => cases u with
    | nil => simp at h
    | cons y u =>
      rw [List.length_cons, List.length_cons] at h
      unfold nzV subV at hz
      rw [List.zip_cons_cons, List.map_cons, List.any_cons, Bool.or_eq_false_iff] at hz
      have h1 := ih (u := u) (by omega) hz.2
      have h2 : y - x = 0 := by simpa using hz.1
      rw [h1]
      congr 1
      omega
theorem diffs_len {s t : Stk} (h : t.length = s.length) : (diffs s t).length = s.length := by
  unfold diffs
  rw [List.length_map, List.length_zip]
  omega
theorem diffs_get {s t : Stk} {l : Nat} (h : t.length = s.length) (hl : l < s.length) : (diffs s t)[l]? = some (subV (s.getD l []) (t.getD l [])) := by
  unfold diffs
  rw [List.getElem?_map, List.getElem?_eq_getElem (by rw [List.length_zip]; omega), List.getElem_zip, List.getD_eq_getElem?_getD, List.getD_eq_getElem?_getD, List.getElem?_eq_getElem hl, List.getElem?_eq_getElem (by omega)]
  rfl
theorem diffs_set {s t : Stk} {l : Nat} {v : Vec} (h : t.length = s.length) (hl : l < s.length) : diffs s (t.set l v) = (diffs s t).set l (subV (s.getD l []) v) := by
  apply List.ext_getElem?
  intro i
  by_cases hi : i < s.length
  · rw [diffs_get (by rw [List.length_set]; exact h) hi]
    by_cases e : l = i
    · subst e
      rw [List.getElem?_set_self (by rw [diffs_len h]; exact hl), List.getD_eq_getElem?_getD (l := t.set l v), List.getElem?_set_self (by omega)]
      rfl
    · rw [List.getElem?_set_ne e, diffs_get h hi, List.getD_eq_getElem?_getD (l := t.set l v), List.getElem?_set_ne e, ← List.getD_eq_getElem?_getD]
  · rw [List.getElem?_eq_none (by rw [diffs_len (by rw [List.length_set]; exact h)]; omega), List.getElem?_eq_none (by rw [List.length_set, diffs_len h]; omega)]
theorem filter_set {D : List Vec} {l : Nat} {c z : Vec} (hl : D[l]? = some z) (hz : nzV z = false) (hc : nzV c = true) : ((D.set l c).filter nzV).Perm (c :: D.filter nzV) := by
  obtain ⟨hlt, hg⟩ := List.getElem?_eq_some_iff.mp hl
  have e1 : D.set l c = D.take l ++ c :: D.drop (l + 1) := by
    rw [← set_cut hlt]
    simp
  have e2 : D = D.take l ++ z :: D.drop (l + 1) := by
    rw [← hg]
    simp
  have e3 : D.filter nzV = (D.take l).filter nzV ++ (D.drop (l + 1)).filter nzV := by
    conv => lhs; rw [e2]
    rw [List.filter_append, List.filter_cons_of_neg (by rw [hz]; decide)]
  rw [e1, e3, List.filter_append, List.filter_cons_of_pos hc]
  exact List.perm_middle
theorem app_diffs {n : Nat} {s : Stk} (hrow : ∀ v ∈ s, v.length = n) : ∀ (ps : List Pl) (t : Stk), t.length = s.length → (ps.map (·.1)).Nodup → (∀ x ∈ ps, x.1 < s.length ∧ x.2.length = n ∧ nzV x.2 = true ∧ t.getD x.1 [] = s.getD x.1 []) →
    ((diffs s (app t ps)).filter nzV).Perm (ps.map (·.2) ++ (diffs s t).filter nzV)
  | [], t, _, _, _ => .refl _
  | x :: ps, t, hl, nd, h => by
    rw [List.map_cons, List.nodup_cons] at nd
    obtain ⟨h1, h2, h3, h4⟩ := h x List.mem_cons_self
    have hsl : (s.getD x.1 []).length = n := hrow _ (getD_mem h1)
    have ih := app_diffs hrow ps (st1 t x) (by rw [st1_len]; exact hl) nd.2 fun y hy => by
      obtain ⟨a1, a2, a3, a4⟩ := h y (List.mem_cons_of_mem _ hy)
      refine ⟨a1, a2, a3, ?_⟩
      rw [st1_get (fun e => nd.1 (List.mem_map.mpr ⟨y, hy, e.symm⟩)), a4]
    show ((diffs s (app (st1 t x) ps)).filter nzV).Perm (x.2 :: ps.map (·.2) ++ (diffs s t).filter nzV)
    refine ih.trans ?_
    have e : diffs s (st1 t x) = (diffs s t).set x.1 x.2 := by
      unfold st1
      rw [diffs_set hl h1, h4, subV_add (by omega)]
    have p := filter_set (D := diffs s t) (l := x.1) (c := x.2) (z := subV (s.getD x.1 []) (t.getD x.1 [])) (diffs_get hl h1) (by rw [h4]; exact sub_self _) h3
    rw [← e] at p
    exact (p.append_left _).trans List.perm_middle
theorem app_at {l : Nat} {c : Vec} : ∀ {ps : List Pl} {s : Stk}, (ps.map (·.1)).Nodup → (l, c) ∈ ps → l < s.length → (app s ps).getD l [] = addV (s.getD l []) c
  | x :: ps, s, nd, h, hl => by
    rw [List.map_cons, List.nodup_cons] at nd
    rcases List.mem_cons.mp h with z | z
    · subst z
      show (app (st1 s (l, c)) ps).getD l [] = _
      rw [app_get nd.1]
      unfold st1
      rw [List.getD_eq_getElem?_getD, List.getElem?_set_self hl]
      rfl
    · have hne : x.1 ≠ l := fun e => nd.1 (by rw [e]; exact List.mem_map.mpr ⟨(l, c), z, rfl⟩)
      show (app (st1 s x) ps).getD l [] = _
      rw [app_at nd.2 z (by rw [st1_len]; exact hl), st1_get hne]
theorem stk_ext {s t : Stk} (hl : t.length = s.length) (h : ∀ l, l < s.length → t.getD l [] = s.getD l []) : t = s := by
  apply List.ext_getElem hl
  intro i h1 h2
  have := h i h2
  rw [List.getD_eq_getElem?_getD, List.getD_eq_getElem?_getD, List.getElem?_eq_getElem h1, List.getElem?_eq_getElem h2] at this
  exact this
structure Shape (n : Nat) (s : Stk) : Prop where
  row : ∀ v ∈ s, v.length = n
  pos : ∀ v ∈ s, okV v = true
theorem put1_iff {n : Nat} {s t : Stk} {cs : List Vec} (hs : Shape n s) (ht : Shape n t) (hl : t.length = s.length) (hc : ∀ c ∈ cs, c.length = n ∧ nzV c = true) : Put1 s cs t ↔ ((diffs s t).filter nzV).Perm cs := by
  constructor
  · rintro ⟨ps, P, e, et⟩
    have h0 : (diffs s s).filter nzV = [] := by
      refine List.filter_eq_nil_iff.mpr fun v hv => ?_
      unfold diffs at hv
      obtain ⟨⟨a, b⟩, hp, rfl⟩ := List.mem_map.mp hv
      have : a = b := by
        obtain ⟨i, hi, e⟩ := List.getElem_of_mem hp
        rw [List.getElem_zip] at e
        exact (congrArg Prod.fst e).symm.trans (congrArg Prod.snd e)
      subst this
      rw [sub_self]
      decide
    have p := app_diffs hs.row ps s rfl P.nd fun x hx => ⟨P.lt x hx, (hc x.2 (e.mem_iff.mp (List.mem_map.mpr ⟨x, hx, rfl⟩))).1, (hc x.2 (e.mem_iff.mp (List.mem_map.mpr ⟨x, hx, rfl⟩))).2, rfl⟩
    rw [h0, List.append_nil, ← et] at p
    exact p.trans e
  · intro p
    obtain ⟨g, eg⟩ : ∃ g : Nat → Option Pl, g = fun l => if nzV (subV (s.getD l []) (t.getD l [])) then some (l, subV (s.getD l []) (t.getD l [])) else none := ⟨_, rfl⟩
    obtain ⟨ps, eps⟩ : ∃ ps, ps = (List.range s.length).filterMap g := ⟨_, rfl⟩
    have hmem : ∀ x ∈ ps, x.1 < s.length ∧ x.2 = subV (s.getD x.1 []) (t.getD x.1 []) := fun x hx => by
      rw [eps] at hx
      obtain ⟨l, hl, e⟩ := List.mem_filterMap.mp hx
      rw [eg] at e
      dsimp only at e
      split at e
      · cases e
        exact ⟨List.mem_range.mp hl, rfl⟩
      · cases e
    have hin : ∀ l, l < s.length → nzV (subV (s.getD l []) (t.getD l [])) = true → (l, subV (s.getD l []) (t.getD l [])) ∈ ps := fun l hl hz => by
      rw [eps]
      refine List.mem_filterMap.mpr ⟨l, List.mem_range.mpr hl, ?_⟩
      rw [eg]
      dsimp only
      rw [if_pos hz]
    have efst : ∀ ls : List Nat, ((ls.filterMap g).map (·.1)) = ls.filter fun l => nzV (subV (s.getD l []) (t.getD l [])) := fun ls => by
      induction ls with
      | nil => rfl
      | cons l ls ih =>
        cases hz : nzV (subV (s.getD l []) (t.getD l [])) with
        | true =>
          rw [List.filterMap_cons_some (b := (l, subV (s.getD l []) (t.getD l []))) (by rw [eg]; dsimp only; rw [if_pos hz]), List.map_cons, ih, List.filter_cons_of_pos (p := fun l => nzV (subV (s.getD l []) (t.getD l []))) hz]
        | false =>
          rw [List.filterMap_cons_none (by rw [eg]; dsimp only; rw [if_neg (by rw [hz]; decide)]), ih, List.filter_cons_of_neg (p := fun l => nzV (subV (s.getD l []) (t.getD l []))) (by rw [hz]; decide)]
    have esnd : ∀ ls : List Nat, ((ls.filterMap g).map (·.2)) = (ls.map fun l => subV (s.getD l []) (t.getD l [])).filter nzV := fun ls => by
      induction ls with
      | nil => rfl
      | cons l ls ih =>
        cases hz : nzV (subV (s.getD l []) (t.getD l [])) with
        | true =>
          rw [List.filterMap_cons_some (b := (l, subV (s.getD l []) (t.getD l []))) (by rw [eg]; dsimp only; rw [if_pos hz]), List.map_cons, ih, List.map_cons, List.filter_cons_of_pos hz]
        | false =>
          rw [List.filterMap_cons_none (by rw [eg]; dsimp only; rw [if_neg (by rw [hz]; decide)]), ih, List.map_cons, List.filter_cons_of_neg (by rw [hz]; decide)]
    have ediff : (List.range s.length).map (fun l => subV (s.getD l []) (t.getD l [])) = diffs s t := by
      apply List.ext_getElem?
      intro i
      by_cases hi : i < s.length
      · rw [diffs_get hl hi, List.getElem?_map, List.getElem?_range hi]
        rfl
      · rw [List.getElem?_eq_none (by rw [List.length_map, List.length_range]; omega), List.getElem?_eq_none (by rw [diffs_len hl]; omega)]
    have hsl : ∀ l, l < s.length → (s.getD l []).length = n := fun l h => hs.row _ (getD_mem h)
    have htl : ∀ l, l < s.length → (t.getD l []).length = n := fun l h => ht.row _ (getD_mem (by omega))
    have hadd : ∀ l, l < s.length → addV (s.getD l []) (subV (s.getD l []) (t.getD l [])) = t.getD l [] := fun l h => add_sub (by rw [hsl l h, htl l h])
    have nd : (ps.map (·.1)).Nodup := by
      rw [eps, efst]
      exact List.nodup_range.filter _
    refine ⟨ps, ⟨nd, fun x hx => (hmem x hx).1, fun x hx => ?_⟩, ?_, ?_⟩
    · obtain ⟨h1, h2⟩ := hmem x hx
      unfold okP
      rw [h2, hadd _ h1]
      exact ht.pos _ (getD_mem (by omega))
    · rw [eps, esnd, ediff]
      exact p
    · refine stk_ext (by rw [app_len]; exact hl) fun l hlt => ?_
      rw [app_len] at hlt
      cases hz : nzV (subV (s.getD l []) (t.getD l [])) with
      | true => rw [app_at nd (hin l hlt hz) hlt, hadd l hlt]
      | false =>
        rw [app_get fun z => ?_]
        · exact add_zero (by rw [hsl l hlt, htl l hlt]) hz
        · rw [eps, efst] at z
          have := (List.mem_filter.mp z).2
          rw [hz] at this
          cases this
/-- a step, told by differences, is a put -/
theorem isStep_iff {n : Nat} {b : List Stk} {s t : Stk} (hs : Shape n s) (ht : Shape n t) (hl : t.length = s.length) (hb : ∀ p ∈ b, patBy p = p ∧ ∀ c ∈ p, c.length = n ∧ nzV c = true) : isStepB b s t = decide (t ∈ stepsB b s) := by
  have key : t ∈ stepsB b s ↔ patBy ((diffs s t).filter nzV) ∈ b := by
    rw [mem_steps fun p hp => (hb p hp).1]
    have hneg : ∀ p ∈ b, ∀ c ∈ p.map negV, c.length = n ∧ nzV c = true := fun p hp c hc => by
      obtain ⟨u, hu, rfl⟩ := List.mem_map.mp hc
      obtain ⟨h1, h2⟩ := (hb p hp).2 u hu
      refine ⟨by rw [negV_len]; exact h1, ?_⟩
      unfold nzV negV at *
      rw [List.any_map]
      obtain ⟨x, hx, hz⟩ := List.any_eq_true.mp h2
      refine List.any_eq_true.mpr ⟨x, hx, ?_⟩
      simp at hz ⊢
      exact hz
    constructor
    · rintro ⟨p, hp, z⟩
      have : patBy ((diffs s t).filter nzV) = p := (pat_iff (hb p hp).1).mpr (by
        rcases z with z | z
        · exact .inl ((put1_iff hs ht hl (hb p hp).2).mp z)
        · exact .inr ((put1_iff hs ht hl (hneg p hp)).mp z))
      rw [this]
      exact hp
    · intro hp
      refine ⟨_, hp, ?_⟩
      rcases (pat_iff (hb _ hp).1).mp rfl with z | z
      · exact .inl ((put1_iff hs ht hl (hb _ hp).2).mpr z)
      · exact .inr ((put1_iff hs ht hl (hneg _ hp)).mpr z)
  unfold isStepB
  rw [decide_eq_true (show s.length = t.length from hl.symm), Bool.true_and]
  by_cases h : t ∈ stepsB b s
  · rw [decide_eq_true h, decide_eq_true (key.mp h)]
  · rw [decide_eq_false h, decide_eq_false fun z => h (key.mpr z)]
end K62
/-! plain: changes, patterns, tables -/
namespace K62
open PySem PySem.Spec PyProof.Rows L2
theorem dot_add : ∀ {r a b : Vec}, a.length = b.length → dot r (addV a b) = dot r a + dot r b
  | [], a, b, _ => by simp [dot]
  | x :: r, [], [], _ => by simp [dot, addV]
  | x :: r, y :: a, z :: b, h => by
    rw [List.length_cons, List.length_cons] at h
    have ih := dot_add (r := r) (a := a) (b := b) (by omega)
    unfold dot addV at ih ⊢
    simp only [List.zip_cons_cons, List.map_cons, List.sum_cons]
    rw [ih, Int.mul_add]
    omega
theorem dot_neg : ∀ {r a : Vec}, dot r (negV a) = -dot r a
  | [], a => by simp [dot]
  | x :: r, [] => by simp [dot, negV]
  | x :: r, y :: a => by
    have ih := dot_neg (r := r) (a := a)
    unfold dot negV at ih ⊢
    simp only [List.zip_cons_cons, List.map_cons, List.sum_cons]
    rw [ih, Int.mul_neg]
    omega
theorem perm_sum {l m : List Int} (h : l.Perm m) : l.sum = m.sum := by
  induction h with
  | nil => rfl
  | cons x _ ih => rw [List.sum_cons, List.sum_cons, ih]
  | swap x y l => simp only [List.sum_cons]; omega
  | trans _ _ h1 h2 => rw [h1, h2]
theorem neg_sum : ∀ l : List Int, (l.map fun x => -x).sum = -l.sum
  | [] => rfl
  | x :: l => by
    rw [List.map_cons, List.sum_cons, List.sum_cons, neg_sum l]
    omega
theorem neg_get (a : Vec) (k : Nat) : (negV a).getD k 0 = -a.getD k 0 := by
  unfold negV
  rw [List.getD_eq_getElem?_getD, List.getElem?_map, List.getD_eq_getElem?_getD]
  cases a[k]? <;> simp
theorem add_get {a b : Vec} (h : a.length = b.length) (k : Nat) : (addV a b).getD k 0 = a.getD k 0 + b.getD k 0 := by
  unfold addV
  rw [List.getD_eq_getElem?_getD, List.getElem?_map, List.getD_eq_getElem?_getD, List.getD_eq_getElem?_getD]
  by_cases hk : k < a.length
  · rw [List.getElem?_eq_getElem (by rw [List.length_zip]; omega), List.getElem_zip, List.getElem?_eq_getElem hk, List.getElem?_eq_getElem (by omega)]
    rfl
  · rw [List.getElem?_eq_none (by rw [List.length_zip]; omega), List.getElem?_eq_none (by omega), List.getElem?_eq_none (by omega)]
    rfl
theorem nz_neg (c : Vec) : nzV (negV c) = nzV c := by
  unfold nzV negV
  rw [List.any_map]
  congr 1
  funext x
  show (-x != 0) = (x != 0)
  by_cases h : x = 0
  · rw [h]; rfl
  · rw [bne_iff_ne.mpr h, bne_iff_ne.mpr (show -x ≠ 0 by omega)]
/-- changes that make a pattern -/
structure Chg (F : Frm) (cs : List Vec) : Prop where
  len : 2 ≤ cs.length ∧ cs.length ≤ 3
  row : ∀ c ∈ cs, c.length = cellsN F
  nz : ∀ c ∈ cs, nzV c = true
  dot : ∀ c ∈ cs, ∀ r ∈ F, dot r c = 0
  ent : ∀ c ∈ cs, ∀ x ∈ c, -4 ≤ x ∧ x ≤ 4
  col : ∀ k, (cs.map fun c => c.getD k 0).sum = 0
theorem Chg.perm {F : Frm} {cs ds : List Vec} (h : Chg F cs) (p : cs.Perm ds) : Chg F ds :=
  ⟨by rw [← p.length_eq]; exact h.len, fun c hc => h.row c (p.mem_iff.mpr hc), fun c hc => h.nz c (p.mem_iff.mpr hc), fun c hc => h.dot c (p.mem_iff.mpr hc), fun c hc => h.ent c (p.mem_iff.mpr hc), fun k => by rw [← perm_sum (p.map _)]; exact h.col k⟩
theorem Chg.neg {F : Frm} {cs : List Vec} (h : Chg F cs) : Chg F (cs.map negV) := by
  refine ⟨by rw [List.length_map]; exact h.len, fun c hc => ?_, fun c hc => ?_, fun c hc r hr => ?_, fun c hc x hx => ?_, fun k => ?_⟩
  · obtain ⟨u, hu, rfl⟩ := List.mem_map.mp hc
    rw [negV_len]; exact h.row u hu
  · obtain ⟨u, hu, rfl⟩ := List.mem_map.mp hc
    rw [nz_neg]; exact h.nz u hu
  · obtain ⟨u, hu, rfl⟩ := List.mem_map.mp hc
    rw [dot_neg, h.dot u hu r hr]; rfl
  · obtain ⟨u, hu, rfl⟩ := List.mem_map.mp hc
    obtain ⟨y, hy, rfl⟩ := List.mem_map.mp hx
    have := h.ent u hu y hy
    omega
  · rw [List.map_map]
    have : ((fun c : Vec => c.getD k 0) ∘ negV) = (fun x : Int => -x) ∘ fun c : Vec => c.getD k 0 := by
      funext c
      exact neg_get c k
    rw [this, ← List.map_map, neg_sum, h.col k]
    rfl
theorem Chg.turn {F : Frm} {cs : List Vec} (h : Chg F cs) : Chg F (turn cs) := h.neg.perm (turn_perm cs).symm
theorem Chg.pat {F : Frm} {cs : List Vec} (h : Chg F cs) : Chg F (patBy cs) := by
  rcases patBy_or cs with z | z
  · exact h.perm z.symm
  · exact h.neg.perm z.symm
theorem changeIn_of {F : Frm} {c : Vec} (hl : c.length = cellsN F) (hd : ∀ r ∈ F, dot r c = 0) (he : ∀ x ∈ c, -4 ≤ x ∧ x ≤ 4) : changeIn F (eV c) = true := by
  rw [Bool.and_eq_true, Bool.and_eq_true, vecOf_eV]
  refine ⟨⟨intRow_of hl, ?_⟩, ?_⟩
  · refine List.all_eq_true.mpr fun x hx => ?_
    unfold sumsV at hx
    obtain ⟨r, hr, rfl⟩ := List.mem_map.mp hx
    rw [hd r hr]
    rfl
  · refine List.all_eq_true.mpr fun x hx => ?_
    have := he x hx
    exact decide_eq_true (by omega)
theorem Chg.chgIn {F : Frm} {cs : List Vec} (h : Chg F cs) : ∀ c ∈ cs, changeIn F (eV c) = true := fun c hc => changeIn_of (h.row c hc) (h.dot c hc) (h.ent c hc)
theorem Chg.adds {F : Frm} {cs : List Vec} (h : Chg F cs) : addsTo cs = true := by
  unfold addsTo
  rw [Bool.not_eq_true']
  refine List.any_eq_false.mpr fun k _ => ?_
  rw [h.col k]
  decide
theorem Chg.patVal {F : Frm} {p : List Vec} (h : Chg F p) : patVal F p = decide (patBy p = p) := by
  have hl := h.len
  unfold K62.patVal
  rw [h.adds, decide_eq_true hl.1, decide_eq_true (show p.length ≤ 8 by omega), List.all_eq_true.mpr fun c hc => ?_]
  · simp
  · unfold chgB
    rw [h.chgIn c hc, h.nz c hc]
    rfl
theorem span_ent {x : Int} (h : x ∈ spanR) : -2 ≤ x ∧ x ≤ 2 := by
  unfold spanR at h
  obtain ⟨k, hk, rfl⟩ := List.mem_map.mp h
  have h1 := List.mem_range.mp hk
  have h2 : ((2 + 1 : Int) - (0 - 2)).toNat = 5 := by decide
  rw [h2] at h1
  omega
theorem grid_ent : ∀ n, ∀ v ∈ gridN n, ∀ x ∈ v, -2 ≤ x ∧ x ≤ 2
  | 0, v, h, x, hx => by
    rw [gridN, List.mem_singleton] at h
    rw [h] at hx
    cases hx
  | n + 1, v, h, x, hx => by
    rw [gridN, longer] at h
    obtain ⟨r, hr, hv⟩ := List.mem_flatMap.mp h
    obtain ⟨y, hy, rfl⟩ := List.mem_map.mp hv
    rcases List.mem_append.mp hx with z | z
    · exact grid_ent n r hr x z
    · rw [List.mem_singleton.mp z]
      exact span_ent hy
structure Small (F : Frm) (v : Vec) : Prop where
  row : v.length = cellsN F
  nz : nzV v = true
  dot : ∀ r ∈ F, dot r v = 0
  ent : ∀ x ∈ v, -2 ≤ x ∧ x ≤ 2
theorem small_of {F : Frm} {v : Vec} (h : v ∈ smallL F) : Small F v := by
  obtain ⟨h1, h2⟩ := List.mem_filter.mp h
  rw [Bool.and_eq_true] at h2
  refine ⟨rows_len _ v h1, h2.1, fun r hr => ?_, grid_ent _ v h1⟩
  have h3 := of_decide_eq_true h2.2
  have h4 : dot r v ∈ sumsV F v := List.mem_map.mpr ⟨r, hr, rfl⟩
  rw [h3] at h4
  exact (List.mem_replicate.mp h4).2
theorem small_few (F : Frm) (g : GF F) : (smallL F).length ≤ 125 := Nat.le_trans (List.length_filter_le _ _) (rows_few _ g.cells.2)
theorem add_ent {a b : Vec} (ha : ∀ x ∈ a, -2 ≤ x ∧ x ≤ 2) (hb : ∀ x ∈ b, -2 ≤ x ∧ x ≤ 2) : ∀ x ∈ addV a b, -4 ≤ x ∧ x ≤ 4 := fun x hx => by
  obtain ⟨⟨p, q⟩, hp, rfl⟩ := List.mem_map.mp hx
  have h := List.of_mem_zip hp
  have := ha p h.1
  have := hb q h.2
  show -4 ≤ p + q ∧ p + q ≤ 4
  omega
theorem drawn_chg {F : Frm} {cs : List Vec} (h : DrawnP (smallL F) cs) : Chg F cs := by
  cases h with
  | two ha =>
    rename_i a
    have A := small_of ha
    have key : ∀ c ∈ [a, negV a], c = a ∨ c = negV a := fun c hc => by simpa using hc
    refine ⟨by simp, fun c hc => ?_, fun c hc => ?_, fun c hc r hr => ?_, fun c hc x hx => ?_, fun k => ?_⟩
    · rcases key c hc with z | z <;> rw [z]
      · exact A.row
      · rw [negV_len]; exact A.row
    · rcases key c hc with z | z <;> rw [z]
      · exact A.nz
      · rw [nz_neg]; exact A.nz
    · rcases key c hc with z | z <;> rw [z]
      · exact A.dot r hr
      · rw [dot_neg, A.dot r hr]; rfl
    · rcases key c hc with z | z <;> rw [z] at hx
      · have := A.ent x hx
        omega
      · obtain ⟨y, hy, rfl⟩ := List.mem_map.mp hx
        have := A.ent y hy
        omega
    · simp only [List.map_cons, List.map_nil, List.sum_cons, List.sum_nil]
      rw [neg_get]
      omega
  | three ha hb hn =>
    rename_i a b
    have A := small_of ha
    have B := small_of hb
    have hab : a.length = b.length := by rw [A.row, B.row]
    have key : ∀ c ∈ [a, b, negV (addV a b)], c = a ∨ c = b ∨ c = negV (addV a b) := fun c hc => by simpa using hc
    refine ⟨by simp, fun c hc => ?_, fun c hc => ?_, fun c hc r hr => ?_, fun c hc x hx => ?_, fun k => ?_⟩
    · rcases key c hc with z | z | z <;> rw [z]
      · exact A.row
      · exact B.row
      · rw [negV_len]; exact addV_len A.row B.row
    · rcases key c hc with z | z | z <;> rw [z]
      · exact A.nz
      · exact B.nz
      · exact hn
    · rcases key c hc with z | z | z <;> rw [z]
      · exact A.dot r hr
      · exact B.dot r hr
      · rw [dot_neg, dot_add hab, A.dot r hr, B.dot r hr]; rfl
    · rcases key c hc with z | z | z <;> rw [z] at hx
      · have := A.ent x hx
        omega
      · have := B.ent x hx
        omega
      · obtain ⟨y, hy, rfl⟩ := List.mem_map.mp hx
        have := add_ent A.ent B.ent y hy
        omega
    · simp only [List.map_cons, List.map_nil, List.sum_cons, List.sum_nil]
      rw [neg_get, add_get hab]
      omega
/-! ### stacks that are told -/
theorem dot_bound : ∀ {r v : Vec}, (∀ x ∈ r, 0 ≤ x ∧ x ≤ 2) → (∀ x ∈ v, 0 ≤ x ∧ x ≤ 100) → 0 ≤ dot r v ∧ dot r v ≤ 200 * v.length
  | [], v, _, _ => by simp [dot]; omega
  | x :: r, [], _, _ => by simp [dot]
  | x :: r, y :: v, hr, hv => by
    have ih := dot_bound (r := r) (v := v) (fun z hz => hr z (List.mem_cons_of_mem _ hz)) (fun z hz => hv z (List.mem_cons_of_mem _ hz))
    have h1 := hr x List.mem_cons_self
    have h2 := hv y List.mem_cons_self
    have h3 : 0 ≤ x * y := Int.mul_nonneg h1.1 h2.1
    have h4 : x * y ≤ 2 * 100 := Int.mul_le_mul h1.2 h2.2 h2.1 (by omega)
    unfold dot at ih ⊢
    simp only [List.zip_cons_cons, List.map_cons, List.sum_cons, List.length_cons]
    omega
theorem sum_bound {ι : Type} {f : ι → Int} : ∀ {l : List ι}, (∀ x ∈ l, f x ≤ 100) → (l.map f).sum ≤ 100 * l.length
  | [], _ => by simp
  | x :: l, h => by
    have ih := sum_bound (f := f) (l := l) fun y hy => h y (List.mem_cons_of_mem _ hy)
    have := h x List.mem_cons_self
    simp only [List.map_cons, List.sum_cons, List.length_cons]
    omega
theorem foldl_max_le {b : Int} : ∀ {ns : List Int} {n : Int}, n ≤ b → (∀ x ∈ ns, x ≤ b) → ns.foldl max n ≤ b
  | [], n, h, _ => h
  | x :: ns, n, h, hs => foldl_max_le (ns := ns) (n := max n x) (by have := hs x List.mem_cons_self; omega) fun y hy => hs y (List.mem_cons_of_mem _ hy)
theorem maxV_le {v : Vec} {b : Int} (h0 : 0 ≤ b) (h : ∀ x ∈ v, x ≤ b) : maxV v ≤ b := by
  cases v with
  | nil => exact h0
  | cons n ns => exact foldl_max_le (h n List.mem_cons_self) fun x hx => h x (List.mem_cons_of_mem _ hx)
structure Tab (n : Nat) (v : Vec) : Prop where
  len : v.length = n
  ent : ∀ x ∈ v, 0 ≤ x ∧ x ≤ 100
theorem table_of {F : Frm} (g : GF F) {v : Vec} (h : Tab (cellsN F) v) : tableOf F (eV v) = true := by
  have hc := g.cells
  rw [Bool.and_eq_true]
  have hb : ∀ x ∈ sumsV F v, 0 ≤ x ∧ x ≤ 20000 := fun x hx => by
    obtain ⟨r, hr, rfl⟩ := List.mem_map.mp hx
    have := dot_bound (r := r) (v := v) (fun x hx => g.ent r hr x hx) h.ent
    have := h.len
    omega
  refine ⟨countsOf_of h.len fun x hx => (h.ent x hx).1, ?_⟩
  rw [vecOf_eV, Bool.and_eq_true]
  exact ⟨countsOf_of (by unfold sumsV; rw [List.length_map]) fun x hx => (hb x hx).1, List.all_eq_true.mpr fun x hx => decide_eq_true (hb x hx).2⟩
theorem stack_of {F : Frm} (g : GF F) {t : Stk} (hl : 1 ≤ t.length ∧ t.length ≤ 8) (h : ∀ v ∈ t, Tab (cellsN F) v) : stackVal F (eS t) = true := by
  rw [Bool.and_eq_true, Bool.and_eq_true, Bool.and_eq_true, Bool.and_eq_true]
  have e : (itemsD (eS t)).length = t.length := List.length_map _
  refine ⟨rfl, ⟨decide_eq_true (by rw [e]; omega), decide_eq_true (by rw [e]; omega)⟩, ?_, ?_⟩
  · refine List.all_eq_true.mpr fun d hd => ?_
    obtain ⟨v, hv, rfl⟩ := List.mem_map.mp (show d ∈ t.map eV from hd)
    exact table_of g (h v hv)
  · rw [stkOf_eS]
    refine decide_eq_true (maxV_le (by decide) fun x hx => ?_)
    obtain ⟨k, _, rfl⟩ := List.mem_map.mp hx
    have := sum_bound (f := fun v : Vec => v.getD k 0) (l := t) fun v hv => by
      rw [List.getD_eq_getElem?_getD]
      cases hk : v[k]? with
      | none => simp
      | some x => exact ((h v hv).ent x (List.mem_of_getElem? hk)).2
    omega
end K62
/-! plain: what is met is few -/
namespace K62
open PySem PySem.Spec PyProof.Rows L2
def boxL (lo : Int) (m : Nat) : Nat → List Vec
  | 0 => [[]]
  | n + 1 => (boxL lo m n).flatMap fun v => (List.range m).map fun (k : Nat) => (lo + (k : Int)) :: v
theorem boxL_mem {lo : Int} {m : Nat} : ∀ {n : Nat} {v : Vec}, v.length = n → (∀ x ∈ v, lo ≤ x ∧ x < lo + m) → v ∈ boxL lo m n
  | 0, v, h, _ => by
    rw [List.length_eq_zero_iff.mp h]
    exact List.mem_singleton.mpr rfl
  | n + 1, [], h, _ => by cases h
  | n + 1, x :: v, h, hx => by
    rw [List.length_cons] at h
    have h1 := hx x List.mem_cons_self
    rw [boxL]
    refine List.mem_flatMap.mpr ⟨v, boxL_mem (by omega) fun y hy => hx y (List.mem_cons_of_mem _ hy), List.mem_map.mpr ⟨(x - lo).toNat, List.mem_range.mpr (by omega), ?_⟩⟩
    congr 1
    omega
def tabs (f : Vec) (k : Int) (n : Nat) : List Vec := (boxL 0 7 n).filter fun v => decide (dot f v = k)
theorem tabs2 : ∀ f ∈ boxL 1 2 2, ∀ u ∈ boxL 0 2 2, (tabs f (dot f u) 2).length ≤ 10 := by decide +kernel
theorem tabs3 : ∀ f ∈ boxL 1 2 3, ∀ u ∈ boxL 0 2 3, (tabs f (dot f u) 3).length ≤ 10 := by decide +kernel
def univ (f : Vec) (n : Nat) : Stk → List Stk
  | [] => [[]]
  | u :: us => (tabs f (dot f u) n).flatMap fun v => (univ f n us).map (v :: ·)
theorem univ_few {f : Vec} {n : Nat} : ∀ {s : Stk}, (∀ u ∈ s, (tabs f (dot f u) n).length ≤ 10) → (univ f n s).length ≤ 10 ^ s.length
  | [], _ => by simp [univ]
  | u :: us, h => by
    have ih := univ_few (f := f) (n := n) (s := us) fun v hv => h v (List.mem_cons_of_mem _ hv)
    have h1 := h u List.mem_cons_self
    rw [univ, List.length_cons, Nat.pow_succ]
    have h2 : ((tabs f (dot f u) n).flatMap fun v => (univ f n us).map (v :: ·)).length ≤ (tabs f (dot f u) n).length * 10 ^ us.length := flat_few fun v _ => by rw [List.length_map]; exact ih
    have h3 := Nat.mul_le_mul_right (10 ^ us.length) h1
    omega
theorem univ_mem {f : Vec} {n : Nat} : ∀ {s t : Stk}, t.length = s.length → (∀ l, l < s.length → t.getD l [] ∈ tabs f (dot f (s.getD l [])) n) → t ∈ univ f n s
  | [], t, h, _ => by
    rw [List.length_eq_zero_iff.mp h]
    exact List.mem_singleton.mpr rfl
  | u :: us, [], h, _ => by cases h
  | u :: us, v :: t, h, ht => by
    rw [List.length_cons, List.length_cons] at h
    rw [univ]
    refine List.mem_flatMap.mpr ⟨v, ?_, List.mem_map.mpr ⟨t, univ_mem (by omega) fun l hl => ?_, rfl⟩⟩
    · have := ht 0 (by rw [List.length_cons]; omega)
      exact this
    · have := ht (l + 1) (by rw [List.length_cons]; omega)
      exact this
/-- what stays as it is on the way -/
structure Inv0 (n : Nat) (f : Vec) (s t : Stk) : Prop where
  len : t.length = s.length
  sh : Shape n t
  dot : ∀ l, l < s.length → K62.dot f (t.getD l []) = K62.dot f (s.getD l [])
theorem Inv0.self {n : Nat} {f : Vec} {s : Stk} (h : Shape n s) : Inv0 n f s s := ⟨rfl, h, fun _ _ => rfl⟩
theorem app_in {ps : List Pl} {l : Nat} (h : l ∈ ps.map (·.1)) : ∃ c, (l, c) ∈ ps := by
  obtain ⟨⟨a, c⟩, hx, rfl⟩ := List.mem_map.mp h
  exact ⟨c, hx⟩
theorem Inv0.put {n : Nat} {f : Vec} {s t u : Stk} {cs : List Vec} (h : Inv0 n f s t) (hc : ∀ c ∈ cs, c.length = n ∧ K62.dot f c = 0) (p : Put1 t cs u) : Inv0 n f s u := by
  obtain ⟨ps, P, e, rfl⟩ := p
  have hcs : ∀ {l c}, (l, c) ∈ ps → c.length = n ∧ K62.dot f c = 0 := fun {l c} hm => hc c (e.mem_iff.mp (List.mem_map.mpr ⟨(l, c), hm, rfl⟩))
  have hat : ∀ l, l < t.length → ((app t ps).getD l []).length = n ∧ okV ((app t ps).getD l []) = true ∧ K62.dot f ((app t ps).getD l []) = K62.dot f (t.getD l []) := fun l hl => by
    have hrow := h.sh.row _ (getD_mem (d := []) hl)
    by_cases hm : l ∈ ps.map (·.1)
    · obtain ⟨c, hx⟩ := app_in hm
      obtain ⟨c1, c2⟩ := hcs hx
      rw [app_at P.nd hx hl]
      refine ⟨addV_len hrow c1, P.ok (l, c) hx, ?_⟩
      rw [dot_add (by omega), c2]
      omega
    · rw [app_get hm]
      exact ⟨hrow, h.sh.pos _ (getD_mem hl), rfl⟩
  have hmem : ∀ v ∈ app t ps, ∃ l, l < t.length ∧ v = (app t ps).getD l [] := fun v hv => by
    obtain ⟨l, hl, e⟩ := List.getElem_of_mem hv
    refine ⟨l, by rw [app_len] at hl; exact hl, ?_⟩
    rw [List.getD_eq_getElem?_getD, List.getElem?_eq_getElem hl, ← e]
    rfl
  refine ⟨by rw [app_len, h.len], ⟨fun v hv => ?_, fun v hv => ?_⟩, fun l hl => ?_⟩
  · obtain ⟨l, hl, rfl⟩ := hmem v hv
    exact (hat l hl).1
  · obtain ⟨l, hl, rfl⟩ := hmem v hv
    exact (hat l hl).2.1
  · rw [(hat l (by rw [h.len]; exact hl)).2.2, h.dot l hl]
/-- the book's patterns -/
structure Book (F : Frm) (b : List Stk) : Prop where
  few : b.length ≤ 2
  pat : ∀ p ∈ b, Chg F p ∧ patBy p = p
theorem Inv0.step {F : Frm} (g : GF F) {b : List Stk} (B : Book F b) {s t u : Stk} (h : Inv0 (cellsN F) (F.headD []) s t) (hu : u ∈ stepsB b t) : Inv0 (cellsN F) (F.headD []) s u := by
  obtain ⟨p, hp, z⟩ := (mem_steps fun p hp => (B.pat p hp).2).mp hu
  have hF : F.headD [] ∈ F := by
    obtain ⟨r, R, rfl⟩ := g.cons
    exact List.mem_cons_self
  have C := (B.pat p hp).1
  rcases z with z | z
  · exact h.put (fun c hc => ⟨C.row c hc, C.dot c hc _ hF⟩) z
  · exact h.put (fun c hc => ⟨C.neg.row c hc, C.neg.dot c hc _ hF⟩) z
theorem Inv0.all {F : Frm} (g : GF F) {b : List Stk} (B : Book F b) {s : Stk} (hs : Shape (cellsN F) s) (i : Nat) : ∀ e ∈ grown (stepsB b) s i, Inv0 (cellsN F) (F.headD []) s e.k :=
  grown_all (R := Inv0 (cellsN F) (F.headD []) s) (Inv0.self hs) (fun t u ht hu => ht.step g B hu) i
theorem stepC_of {F : Frm} (g : GF F) {b : List Stk} (B : Book F b) {s : Stk} (hl : 1 ≤ s.length ∧ s.length ≤ 3) (hr : ∀ v ∈ s, v.length = cellsN F) : StepC (cellsN F) b s :=
  ⟨hl, hr, by have := g.cells; omega, B.few, fun p hp => ⟨(B.pat p hp).1.len.2, (B.pat p hp).1.row⟩⟩
theorem dot_ge : ∀ {f v : Vec}, f.length = v.length → (∀ x ∈ f, 1 ≤ x) → (∀ x ∈ v, 0 ≤ x) → 0 ≤ dot f v ∧ ∀ x ∈ v, x ≤ dot f v
  | [], [], _, _, _ => ⟨by simp [dot], fun x hx => by cases hx⟩
  | a :: f, y :: v, h, hf, hv => by
    rw [List.length_cons, List.length_cons] at h
    have ih := dot_ge (f := f) (v := v) (by omega) (fun z hz => hf z (List.mem_cons_of_mem _ hz)) (fun z hz => hv z (List.mem_cons_of_mem _ hz))
    have h1 := hf a List.mem_cons_self
    have h2 := hv y List.mem_cons_self
    have h3 : 1 * y ≤ a * y := Int.mul_le_mul_of_nonneg_right h1 h2
    have e : dot (a :: f) (y :: v) = a * y + dot f v := by
      unfold dot
      simp only [List.zip_cons_cons, List.map_cons, List.sum_cons]
    rw [e]
    refine ⟨by omega, fun x hx => ?_⟩
    rcases List.mem_cons.mp hx with z | z
    · rw [z]; omega
    · have := ih.2 x z
      omega
theorem dot_le6 {f u : Vec} {n : Nat} (hn : n ≤ 3) (hf : f.length = n) (hu : u.length = n) (h1 : ∀ x ∈ f, 1 ≤ x ∧ x ≤ 2) (h2 : ∀ x ∈ u, 0 ≤ x ∧ x ≤ 1) : dot f u ≤ 6 := by
  have key : ∀ {f u : Vec}, f.length = u.length → (∀ x ∈ f, 1 ≤ x ∧ x ≤ 2) → (∀ x ∈ u, 0 ≤ x ∧ x ≤ 1) → dot f u ≤ 2 * u.length := by
    intro f
    induction f with
    | nil => intro u h _ _; simp [dot]; omega
    | cons a f ih =>
      intro u h hf hu
      cases u with
      | nil => cases h
      | cons y u =>
        rw [List.length_cons, List.length_cons] at h
        have i := ih (u := u) (by omega) (fun z hz => hf z (List.mem_cons_of_mem _ hz)) (fun z hz => hu z (List.mem_cons_of_mem _ hz))
        have h1 := hf a List.mem_cons_self
        have h2 := hu y List.mem_cons_self
        have h3 : a * y ≤ 2 * 1 := Int.mul_le_mul h1.2 h2.2 h2.1 (by omega)
        have e : dot (a :: f) (y :: u) = a * y + dot f u := by
          unfold dot
          simp only [List.zip_cons_cons, List.map_cons, List.sum_cons]
        rw [e, List.length_cons]
        omega
  have := key (by omega) h1 h2
  omega
theorem head_len {F : Frm} (g : GF F) : (F.headD []).length = cellsN F := rfl
/-- entries of a table that is met, all seven at most -/
theorem inv_tab {F : Frm} (g : GF F) {s t : Stk} (hs : ∀ v ∈ s, Row1 (cellsN F) 0 1 v) (h : Inv0 (cellsN F) (F.headD []) s t) : ∀ l, l < s.length → ∀ x ∈ t.getD l [], 0 ≤ x ∧ x ≤ 6 := fun l hl x hx => by
  have hlt : l < t.length := by rw [h.len]; exact hl
  have hrow := h.sh.row _ (getD_mem (d := []) hlt)
  have hpos := h.sh.pos _ (getD_mem (d := []) hlt)
  have h0 : ∀ y ∈ t.getD l [], 0 ≤ y := fun y hy => of_decide_eq_true (List.all_eq_true.mp hpos y hy)
  have h1 := dot_ge (f := F.headD []) (v := t.getD l []) (by rw [hrow]; rfl) (fun y hy => (g.pos y hy).1) h0
  have hsr := hs _ (getD_mem (d := []) hl)
  have h2 := dot_le6 (f := F.headD []) (u := s.getD l []) g.cells.2 (head_len g) hsr.len g.pos fun y hy => by have := hsr.ent y hy; omega
  have h3 := h1.2 x hx
  rw [h.dot l hl] at h3
  exact ⟨h0 x hx, by omega⟩
theorem reach_of {F : Frm} (g : GF F) {b : List Stk} (B : Book F b) {s : Stk} (hl : 1 ≤ s.length ∧ s.length ≤ 3) (hs : ∀ v ∈ s, Row1 (cellsN F) 0 1 v) : Reach (cellsN F) b s := by
  have hsh : Shape (cellsN F) s := ⟨fun v hv => (hs v hv).len, fun v hv => List.all_eq_true.mpr fun x hx => decide_eq_true ((hs v hv).ent x hx).1⟩
  refine ⟨stepC_of g B hl hsh.row, fun i => ?_⟩
  have M := met_grown (stepsB b) s i
  have hin : ∀ t ∈ (grown (stepsB b) s i).map (·.k), t ∈ univ (F.headD []) (cellsN F) s := fun t ht => by
    obtain ⟨e, he, rfl⟩ := List.mem_map.mp ht
    have I := Inv0.all g B hsh i e he
    refine univ_mem I.len fun l hlt => List.mem_filter.mpr ⟨boxL_mem (I.sh.row _ (getD_mem (by rw [I.len]; exact hlt))) fun x hx => ?_, decide_eq_true (I.dot l hlt)⟩
    have := inv_tab g hs I l hlt x hx
    omega
  have h1 := nodup_len M.nd hin
  have hc := g.cells
  have ht : ∀ u ∈ s, (tabs (F.headD []) (dot (F.headD []) u) (cellsN F)).length ≤ 10 := fun u hu => by
    have hf : F.headD [] ∈ boxL 1 2 (cellsN F) := boxL_mem rfl fun x hx => by have := g.pos x hx; omega
    have hu2 : u ∈ boxL 0 2 (cellsN F) := boxL_mem (hs u hu).len fun x hx => by have := (hs u hu).ent x hx; omega
    generalize F.headD [] = f at hf ⊢
    have h23 : cellsN F = 2 ∨ cellsN F = 3 := by omega
    rcases h23 with e | e
    · rw [e] at hf hu2 ⊢
      exact tabs2 f hf u hu2
    · rw [e] at hf hu2 ⊢
      exact tabs3 f hf u hu2
  have h2 := univ_few ht
  have h3 : 10 ^ s.length ≤ 10 ^ 3 := Nat.pow_le_pow_right (by omega) hl.2
  rw [List.length_map] at h1
  have h4 : 10 ^ 3 = 1000 := rfl
  omega
theorem inv_stack {F : Frm} (g : GF F) {s t : Stk} (hl : 1 ≤ s.length ∧ s.length ≤ 3) (hs : ∀ v ∈ s, Row1 (cellsN F) 0 1 v) (h : Inv0 (cellsN F) (F.headD []) s t) : ∀ v ∈ t, Tab (cellsN F) v := fun v hv => by
  obtain ⟨l, hlt, e⟩ := List.getElem_of_mem hv
  have hlt2 : l < s.length := by rw [← h.len]; exact hlt
  have hg : t.getD l [] = v := by rw [List.getD_eq_getElem?_getD, List.getElem?_eq_getElem hlt, e]; rfl
  refine ⟨h.sh.row v hv, fun x hx => ?_⟩
  have := inv_tab g hs h l hlt2 x (by rw [hg]; exact hx)
  omega
end K62
/-! the law's own closure and distances -/
namespace K62
open PySem PySem.Spec PyProof.Rows L2
abbrev DS := List Stk × List Stk
def dstep (st : DS) (t : Stk) : DS := if t ∈ st.1 then st else (st.1 ++ [t], st.2 ++ [t])
structure DAdd (ts : List Stk) (st : DS) (add : List Stk) : Prop where
  eq : ts.foldl dstep st = (st.1 ++ add, st.2 ++ add)
  all : ∀ t ∈ ts, t ∈ st.1 ++ add
  nd : st.1.Nodup → (st.1 ++ add).Nodup
  sub : ∀ a ∈ add, a ∈ ts
theorem dfold : ∀ (ts : List Stk) (st : DS), ∃ add, DAdd ts st add
  | [], st => ⟨[], by simp, fun t h => (by cases h), fun h => (by simpa using h), fun a h => (by cases h)⟩
  | t :: ts, st => by
    by_cases h : t ∈ st.1
    · obtain ⟨add, A⟩ := dfold ts st
      refine ⟨add, ?_, fun u hu => ?_, A.nd, fun a ha => List.mem_cons_of_mem _ (A.sub a ha)⟩
      · rw [List.foldl_cons, show dstep st t = st by unfold dstep; rw [if_pos h]]
        exact A.eq
      · rcases List.mem_cons.mp hu with z | z
        · rw [z]; exact List.mem_append_left _ h
        · exact A.all u z
    · obtain ⟨add, A⟩ := dfold ts (st.1 ++ [t], st.2 ++ [t])
      refine ⟨t :: add, ?_, fun u hu => ?_, fun nd => ?_, fun a ha => ?_⟩
      · rw [List.foldl_cons, show dstep st t = (st.1 ++ [t], st.2 ++ [t]) by unfold dstep; rw [if_neg h], A.eq]
        simp
      · rcases List.mem_cons.mp hu with z | z
        · rw [z]; simp
        · have := A.all u z
          simpa using this
      · have h1 : (st.1 ++ [t]).Nodup := by
          rw [List.nodup_append]
          refine ⟨nd, by simp, fun a ha b hb e => ?_⟩
          rw [List.mem_singleton] at hb
          rw [e, hb] at ha
          exact h ha
        have := A.nd h1
        simpa using this
      · rcases List.mem_cons.mp ha with z | z
        · rw [z]; exact List.mem_cons_self
        · exact List.mem_cons_of_mem _ (A.sub a z)
structure Dfs (f : Stk → List Stk) (s : Stk) (U : List Stk) (st : DS) : Prop where
  nd : st.1.Nodup
  root : s ∈ st.1
  sub : ∀ t ∈ st.1, t ∈ U
  ls : ∀ t ∈ st.2, t ∈ st.1
  cl : ∀ t ∈ st.1, t ∈ st.2 ∨ ∀ u ∈ f t, u ∈ st.1
  ll : st.2.length ≤ st.1.length
theorem Dfs.next {f : Stk → List Stk} {s : Stk} {U : List Stk} (hU : ∀ t ∈ U, ∀ u ∈ f t, u ∈ U) {found xs : List Stk} {h : Stk} (D : Dfs f s U (found, xs ++ [h])) : Dfs f s U ((f h).foldl dstep (found, xs)) ∧ ∃ a, ((f h).foldl dstep (found, xs)).1.length = found.length + a ∧ ((f h).foldl dstep (found, xs)).2.length = xs.length + a := by
  obtain ⟨add, A⟩ := dfold (f h) (found, xs)
  have hh : h ∈ found := D.ls h (List.mem_append_right _ (List.mem_singleton.mpr rfl))
  rw [A.eq]
  refine ⟨⟨A.nd D.nd, List.mem_append_left _ D.root, fun t ht => ?_, fun t ht => ?_, fun t ht => ?_, ?_⟩, add.length, List.length_append, List.length_append⟩
  · rcases List.mem_append.mp ht with z | z
    · exact D.sub t z
    · exact hU h (D.sub h hh) t (A.sub t z)
  · rcases List.mem_append.mp ht with z | z
    · exact List.mem_append_left _ (D.ls t (List.mem_append_left _ z))
    · exact List.mem_append_right _ z
  · rcases List.mem_append.mp ht with z | z
    · rcases D.cl t z with w | w
      · rcases List.mem_append.mp w with v | v
        · exact .inl (List.mem_append_left _ v)
        · rw [List.mem_singleton.mp v]
          exact .inr fun u hu => A.all u hu
      · exact .inr fun u hu => List.mem_append_left _ (w u hu)
    · exact .inl (List.mem_append_right _ z)
  · have := D.ll
    show (xs ++ add).length ≤ (found ++ add).length
    have h1 : (xs ++ [h]).length ≤ found.length := this
    rw [List.length_append] at h1
    rw [List.length_append, List.length_append]
    omega
theorem met_in {f : Stk → List Stk} {s : Stk} {ks : List Ent} (m : Met f s ks) {S : List Stk} (h0 : s ∈ S) (hs : ∀ t ∈ S, ∀ u ∈ f t, u ∈ S) : ∀ n, ∀ e ∈ ks, e.dep ≤ n → e.k ∈ S
  | n, e, he, hn => by
    rcases m.from_ e he with ⟨_, h, _⟩ | ⟨p, hp, _, h2, h3⟩
    · rw [h]; exact h0
    · cases n with
      | zero => omega
      | succ n => exact hs _ (met_in m h0 hs n p hp (by omega)) _ h3
theorem dfs_done {f : Stk → List Stk} {s : Stk} {found : List Stk} (hf : (full f s).length ≤ 1000) (D : Dfs f s ((full f s).map (·.k)) (found, [])) : sortS found = sortS ((full f s).map (·.k)) := by
  have M := met_grown f s 1001
  refine sort_perm eS antiS (nodup_perm D.nd M.nd fun t => ⟨D.sub t, fun ht => ?_⟩)
  obtain ⟨e, he, rfl⟩ := List.mem_map.mp ht
  refine met_in M D.root (fun t ht u hu => ?_) e.dep e he (Nat.le_refl _)
  rcases D.cl t ht with z | z
  · cases z
  · exact z u hu
section
variable {X : Cx} {e : Expr} {pos p : Pos} {Γ : List Sl} {k : Nat} {bs : List Stk}
theorem pn_sortSL (hm : X.mg "sorted" = none) (hr : Room k X.A) (hb : ∀ t ∈ bs, t ≠ []) (ha : PE X e (tL (pwOf X) Γ (Is (bs.map eS)))) (hg : Gl X "sorted" := by rfl) (hs : starEach [e] X.env = (false, eval e X.env) :: starEach [] X.env := by rfl) : PE X (.Call (.Name "sorted" p) [e] [] pos) (tN (pwOf X) Γ (Is ((sortS bs).map eS))) :=
  pn_BL (cr_sortL hr (PySem.W.AllAlike.of alike_S) (sortableS hb) fun b _ => by have := depth_S b; omega) hg hm bt_sorted ha (by decide) (by decide) hs
end
abbrev Canon (b : List Stk) : Prop := ∀ p ∈ b, patBy p = p
section
variable {P : Program} {w : World} {K : PySem.W.Frag} {mg : Str → Option Value} {base : Heap}
abbrev φ87 : Ph := phN (fun i : List Stk × Stk => Canon i.1 ∧ ∃ n, Reach n i.1 i.2) (fun i => [.p (eB i.1), .p (eS i.2)]) (fun i => Is ((sortS ((full (stepsB i.1) i.2).map (·.k))).map eS))
def ok87 (T : Tx K mg) : Cal P w K mg base 7 "_law_closed" ["_law_patterns", "_law_stack_here"] φ87 :=
  let q86 := ok86 (P := P) (w := w) (base := base) T
  T.a87.cal fun F => fnG F c87 (fun ds Rd Rn h => by obtain ⟨d, _, rfl, _⟩ := h; rfl) fun cdv A outer st H hG hr ds Rd Rn h => by
    obtain ⟨⟨b, s⟩, ⟨hb, n, R⟩, rfl, rfl, rfl⟩ := h
    have R : Reach n b s := R
    have hb : Canon b := hb
    obtain ⟨U, eU⟩ : ∃ U, U = (full (stepsB b) s).map (·.k) := ⟨_, rfl⟩
    have hfull := R.few 1001
    have hUl : U.length ≤ 1000 := by rw [eU, List.length_map]; exact hfull
    have hUc : ∀ t ∈ U, ∀ u ∈ stepsB b t, u ∈ U := fun t ht u hu => by
      rw [eU] at ht ⊢
      exact grown_closed (n := 1001) (by omega) ht hu
    have hUS : ∀ t ∈ U, StepC n b t := fun t ht => by
      rw [eU] at ht
      obtain ⟨e, he, rfl⟩ := List.mem_map.mp ht
      exact R.all 1001 e he
    have hroot : s ∈ U := by rw [eU]; exact (met_grown (stepsB b) s 1001).root
    refine ss_par2 2 3 rfl (pv_n (pn_lst (xs := [eS s]) (ps_cons (pd_var 1) ps_nil) rfl (by simp))) (pv_n (pn_lst (xs := [eS s]) (ps_cons (pd_var 1) ps_nil) rfl (by simp))) (fun x y hx hy => ?_) c87.nd
    obtain ⟨xs, hxs, rfl⟩ := hx
    cases hxs
    obtain ⟨xs, hxs, rfl⟩ := hy
    cases hxs
    refine ss_while (ι := DS × Sl × Sl) (t := fun i => !decide (i.1.2 = [])) (W := fun i => [.d (.p (eB b)), .d (.p (eS s)), .own (i.1.1.map eS), .own (i.1.2.map eS), i.2.1, i.2.2]) (m := fun i => 2 * (1000 - i.1.1.length) + i.1.2.length) (i0 := (([s], [s]), .any, .any)) (C := fun i => Dfs (stepsB b) s U i.1) PassesOwn.never rfl ⟨by simp, by simp, fun t ht => (by rw [List.mem_singleton.mp ht]; exact hroot), fun t ht => ht, fun t ht => .inl ht, Nat.le_refl _⟩ (fun i hi => pt_eq (ptc_neL hr (sh_LS i.1.2) (sh_LS []) (pl_own 3) (pn_l (pn_lst (xs := []) ps_nil rfl (by simp)))) (by rw [eqv_LS])) (fun i hi ht => ?_) (fun i hi ht => ?_)
    · obtain ⟨⟨found, left⟩, o1, o2⟩ := i
      have D : Dfs (stepsB b) s U (found, left) := hi
      have hne : left ≠ [] := of_decide_eq_false (nb ht)
      rcases List.eq_nil_or_concat left with z | ⟨xs, hd, z⟩
      · exact absurd z hne
      rw [List.concat_eq_append] at z
      subst z
      obtain ⟨DN, a, la, lb⟩ := D.next hUc
      have hhd : hd ∈ found := D.ls hd (List.mem_append_right _ (List.mem_singleton.mpr rfl))
      have hfl := nodup_len DN.nd DN.sub
      refine ss_pop 4 3 (xs := xs.map eS) (d := eS hd) ?_ c87.nd (show some (Sl.own ((xs ++ [hd]).map eS)) = _ by rw [List.map_append]; rfl)
      refine ss_for (as := stepsB b hd) (I := fun j Γ => ∃ o, Γ = [.d (.p (eB b)), .d (.p (eS s)), .own ((((stepsB b hd).take j).foldl dstep (found, xs)).1.map eS), .own ((((stepsB b hd).take j).foldl dstep (found, xs)).2.map eS), .d (.p (eS hd)), o]) rfl PassesOwn.never (src_list (j := 5) (enc := eS) (pn_d (pn_eq (pn_c q86 ⟨(b, hd), ⟨n, hUS hd (D.sub hd hhd)⟩, rfl, rfl, rfl⟩ hG hr (ps_cons (pd_var 0) (ps_cons (pd_var 4) ps_nil))) (by rw [lawSteps_eq hb])))) (pg_name (i := 5) c87.nd rfl (.inl rfl)) ⟨o2, rfl⟩ (fun j t Γ' hj hI => ?_) (fun Γ' hI => ?_)
      · obtain ⟨o, rfl⟩ := hI
        obtain ⟨ds, eds⟩ : ∃ ds, ds = ((stepsB b hd).take j).foldl dstep (found, xs) := ⟨_, rfl⟩
        rw [← eds]
        have en : ((stepsB b hd).take (j + 1)).foldl dstep (found, xs) = dstep ds t := by
          rw [List.take_add_one, hj, List.foldl_append, ← eds]
          rfl
        obtain ⟨add, A⟩ := dfold ((stepsB b hd).drop j) ds
        have etot : (stepsB b hd).foldl dstep (found, xs) = (ds.1 ++ add, ds.2 ++ add) := by
          rw [← A.eq, eds, ← List.foldl_append, List.take_append_drop]
        have l1 : ds.1.length ≤ 1000 := by
          rw [etot] at hfl
          have : (ds.1 ++ add).length ≤ U.length := hfl
          rw [List.length_append] at this
          omega
        have l2 : ds.2.length ≤ 1000 := by
          have := DN.ll
          rw [etot] at this hfl
          have h1 : (ds.1 ++ add).length ≤ U.length := hfl
          have h2 : (ds.2 ++ add).length ≤ (ds.1 ++ add).length := this
          rw [List.length_append] at h2
          omega
        refine ss_if (T := Is (!decide (t ∈ ds.1))) (C := fun Γ => Γ = [.d (.p (eB b)), .d (.p (eS s)), .own ((dstep ds t).1.map eS), .own ((dstep ds t).2.map eS), .d (.p (eS hd)), .d (.p (eS t))]) (pt_eq (ptc_notInL hr (sh_S t) (sh_LS ds.1) (pd_var 5) (pl_own 2)) (by rw [any_memS])) (fun hq => ?_) (fun hq => ss_nil ?_) (fun Γ' hC => ss_nil ⟨.d (.p (eS t)), by rw [en]; exact hC⟩)
        · have hq : t ∉ ds.1 := by
            have hq : true = !decide (t ∈ ds.1) := hq
            exact of_decide_eq_false (nb hq.symm)
          have ed : dstep ds t = (ds.1 ++ [t], ds.2 ++ [t]) := by
            unfold dstep
            rw [if_neg hq]
          refine ss_append 2 (xs := ds.1.map eS) (T := Is (eS t)) (pd_imp (pd_var 5) fun d hd => ⟨_, rfl, hd⟩) (by rw [List.length_map]; omega) (fun y hy => ?_)
          cases hy
          refine ss_append 3 (xs := ds.2.map eS) (T := Is (eS t)) (pd_imp (pd_var 5) fun d hd => ⟨_, rfl, hd⟩) (by rw [List.length_map]; omega) (fun y hy => ?_)
          cases hy
          refine ss_nil ?_
          rw [ed]
          simp only [List.map_append]
          rfl
        · have hq : t ∈ ds.1 := by
            have hq : false = !decide (t ∈ ds.1) := hq
            exact of_decide_eq_true (nb' hq.symm)
          have ed : dstep ds t = ds := by
            unfold dstep
            rw [if_pos hq]
          rw [ed]
          rfl
      · obtain ⟨o, rfl⟩ := hI
        rw [List.take_length]
        refine ss_nil ⟨((stepsB b hd).foldl dstep (found, xs), .d (.p (eS hd)), o), DN, ?_, rfl⟩
        show 2 * (1000 - ((stepsB b hd).foldl dstep (found, xs)).1.length) + ((stepsB b hd).foldl dstep (found, xs)).2.length < 2 * (1000 - found.length) + (xs ++ [hd]).length
        rw [la, lb, List.length_append]
        rw [la] at hfl
        simp
        omega
    · obtain ⟨⟨found, left⟩, o1, o2⟩ := i
      have D : Dfs (stepsB b) s U (found, left) := hi
      have hz : left = [] := of_decide_eq_true (nb' ht)
      subst hz
      rw [eU] at D
      refine ss_retN (pn_eq (pn_sortSL T.z_sorted hr (bs := found) (fun t ht e => ?_) (pl_own 2)) (by rw [dfs_done hfull D])) fun d h => h
      have := (hUS t (by rw [eU]; exact D.sub t ht)).len
      rw [e] at this
      exact absurd this.1 (by simp)
/-! ### distances -/
def kvD (e : Ent) : PyData × PyData := (eS e.k, .int (e.dep : Nat))
theorem kvD_keys (ks : List Ent) : (ks.map kvD).map (·.1) = (ks.map (·.k)).map eS := by
  rw [List.map_map, List.map_map]
  rfl
abbrev φ93 : Ph := phD (fun i : List Stk × Stk => Canon i.1 ∧ ∃ n, Reach n i.1 i.2) (fun i => [.p (eB i.1), .p (eS i.2)]) (fun i => Is (.dic ((full (stepsB i.1) i.2).map kvD)))
def ok93 (T : Tx K mg) : Cal P w K mg base 7 "_law_far" ["_law_patterns", "_law_stack_here"] φ93 :=
  let q86 := ok86 (P := P) (w := w) (base := base) T
  T.a93.cal fun F => fnG F c93 (fun ds Rd Rn h => by obtain ⟨d, _, rfl, _⟩ := h; rfl) fun cdv A outer st H hG hr ds Rd Rn h => by
    obtain ⟨⟨b, s⟩, ⟨hb, n, R⟩, rfl, rfl, rfl⟩ := h
    have R : Reach n b s := R
    have hb : Canon b := hb
    refine ss_par2 2 3 (Sa := Is (.owd [(eS s, .int 0)])) (Sb := fun z => ∃ xs, Is [eS s] xs ∧ z = .own xs) rfl (pv_dict (pe_dictKV hr (keyD_S s) (pd_var 1) pd_int)) (pv_n (pn_lst (ps_cons (pd_var 1) ps_nil) rfl (by simp))) (fun x y hx hy => ?_) c93.nd
    cases hx
    obtain ⟨xs, hxs, rfl⟩ := hy
    cases hxs
    refine ss_while (ι := Nat × Sl × Sl) (t := fun i => !decide (((grown (stepsB b) s i.1).map (·.k)).drop i.1 = [])) (W := fun i => [.d (.p (eB b)), .d (.p (eS s)), .owd ((grown (stepsB b) s i.1).map kvD), .own ((((grown (stepsB b) s i.1).map (·.k)).drop i.1).map eS), i.2.1, i.2.2]) (m := fun i => 1001 - i.1) (i0 := (0, .any, .any)) (C := fun i => i.1 ≤ (grown (stepsB b) s i.1).length) PassesOwn.never rfl (Nat.zero_le _) (fun i hi => pt_eq (ptc_neL hr (sh_LS (((grown (stepsB b) s i.1).map (·.k)).drop i.1)) (sh_LS []) (pl_own 3) (pn_l (pn_lst (xs := []) ps_nil rfl (by simp)))) (by rw [eqv_LS])) (fun i hi ht => ?_) (fun i hi ht => ?_)
    · obtain ⟨i, o1, o2⟩ := i
      have hi : i ≤ (grown (stepsB b) s i).length := hi
      have hne : ((grown (stepsB b) s i).map (·.k)).drop i ≠ [] := of_decide_eq_false (nb ht)
      have hlt : i < (grown (stepsB b) s i).length := by
        rcases Nat.lt_or_ge i (grown (stepsB b) s i).length with z | z
        · exact z
        · exact absurd (List.drop_eq_nil_of_le (by rw [List.length_map]; exact z)) hne
      obtain ⟨hd, eh⟩ : ∃ hd, (grown (stepsB b) s i)[i]? = some hd := ⟨_, List.getElem?_eq_getElem hlt⟩
      have hmemh : hd ∈ grown (stepsB b) s i := List.mem_of_getElem? eh
      have hdC : StepC n b hd.k := R.all i hd hmemh
      have enext : grown (stepsB b) s (i + 1) = (stepsB b hd.k).foldl (grow1 hd) (grown (stepsB b) s i) := by
        rw [grown]
        unfold growAt
        rw [eh]
      have edrop : (((grown (stepsB b) s i).map (·.k)).drop i) = hd.k :: ((grown (stepsB b) s i).map (·.k)).drop (i + 1) := by
        rw [List.drop_eq_getElem_cons (by rw [List.length_map]; exact hlt), List.getElem_map]
        have : (grown (stepsB b) s i)[i] = hd := (List.getElem?_eq_some_iff.mp eh).2
        rw [this]
      have hfewA := R.few (i + 1)
      rw [enext] at hfewA
      have M0 := met_grown (stepsB b) s i
      have hown : ([.d (.p (eB b)), .d (.p (eS s)), .owd ((grown (stepsB b) s i).map kvD), .own ((((grown (stepsB b) s i).map (·.k)).drop i).map eS), o1, o2] : List Sl)[3]? = some (.own (eS hd.k :: (((grown (stepsB b) s i).map (·.k)).drop (i + 1)).map eS)) := by
        rw [edrop]
        rfl
      refine ss_par2 4 3 (Sa := fun z => ∃ d, IsP (eS hd.k) d ∧ z = .d d) (Sb := fun z => ∃ xs, Is ((((grown (stepsB b) s i).map (·.k)).drop (i + 1)).map eS) xs ∧ z = .own xs) rfl (pv_d (pd_ixL (pl_own 3 hown) pd_int at0)) (pv_n (pn_eq (pn_slL (pl_own 3 hown) (pod_some pd_int) pod_none) (by rw [cut1_any]; rfl))) (fun x y hx hy => ?_) c93.nd
      obtain ⟨d, hd', rfl⟩ := hx
      cases hd'
      obtain ⟨xs, hxs, rfl⟩ := hy
      cases hxs
      refine ss_for (as := stepsB b hd.k) (I := fun j Γ => ∃ a, Γ = [.d (.p (eB b)), .d (.p (eS s)), .owd ((((stepsB b hd.k).take j).foldl (grow1 hd) (grown (stepsB b) s i)).map kvD), .own ((((((stepsB b hd.k).take j).foldl (grow1 hd) (grown (stepsB b) s i)).map (·.k)).drop (i + 1)).map eS), .d (.p (eS hd.k)), a]) rfl PassesOwn.never (src_list (j := 5) (enc := eS) (pn_d (pn_eq (pn_c q86 ⟨(b, hd.k), ⟨n, hdC⟩, rfl, rfl, rfl⟩ hG hr (ps_cons (pd_var 0) (ps_cons (pd_var 4) ps_nil))) (by rw [lawSteps_eq hb])))) (pg_name (i := 5) c93.nd rfl (.inl rfl)) ⟨_, rfl⟩ (fun j t Γ' hj hI => ?_) (fun Γ' hI => ?_)
      · obtain ⟨a, rfl⟩ := hI
        obtain ⟨ks, eks⟩ : ∃ ks, ks = ((stepsB b hd.k).take j).foldl (grow1 hd) (grown (stepsB b) s i) := ⟨_, rfl⟩
        rw [← eks]
        have en : ((stepsB b hd.k).take (j + 1)).foldl (grow1 hd) (grown (stepsB b) s i) = grow1 hd ks t := by
          rw [List.take_add_one, hj, List.foldl_append, ← eks]
          rfl
        have Mk : Met (stepsB b) s ks := by
          rw [eks]
          exact M0.fold hmemh fun t ht => List.mem_of_mem_take ht
        obtain ⟨mm, emm⟩ : ∃ m, ks = grown (stepsB b) s i ++ m := by
          rw [eks]
          exact fold_pre hd _ _
        have hks : ks.length ≤ 1000 := by
          obtain ⟨m2, e2⟩ := fold_pre hd ((stepsB b hd.k).drop j) ks
          have : (stepsB b hd.k).foldl (grow1 hd) (grown (stepsB b) s i) = ks ++ m2 := by
            conv => lhs; rw [← List.take_append_drop j (stepsB b hd.k)]
            rw [List.foldl_append, ← eks, e2]
          rw [this, List.length_append] at hfewA
          omega
        have hdks : hd ∈ ks := by rw [emm]; exact List.mem_append_left _ hmemh
        have hkey : decide (t ∈ ks.map (·.k)) = true ↔ eS t ∈ (ks.map kvD).map (·.1) := by
          rw [kvD_keys, mem_eS]
          exact decide_eq_true_iff
        refine ss_if (T := Is (!decide (t ∈ ks.map (·.k)))) (C := fun Γ => Γ = [.d (.p (eB b)), .d (.p (eS s)), .owd ((grow1 hd ks t).map kvD), .own ((((grow1 hd ks t).map (·.k)).drop (i + 1)).map eS), .d (.p (eS hd.k)), .d (.p (eS t))]) (ptc_notInM hr (keyD_S t) hkey (pd_var 5) (pm_own 2)) (fun hq => ?_) (fun hq => ss_nil ?_) (fun Γ' hC => ss_nil ⟨.d (.p (eS t)), by rw [en]; exact hC⟩)
        · have hq : t ∉ ks.map (·.k) := by
            have hq : true = !decide (t ∈ ks.map (·.k)) := hq
            exact of_decide_eq_false (nb hq.symm)
          have eg : grow1 hd ks t = ks ++ [⟨t, some hd.k, hd.dep + 1⟩] := by
            unfold grow1
            rw [if_neg hq]
          refine ss_putM 2 (kvs := ks.map kvD) (d := .int ((hd.dep + 1 : Nat) : Int)) hr (keyD_S t) (fun z => hq (by rw [kvD_keys, mem_eS] at z; exact z)) (by rw [List.length_map]; omega) (pdp_eq (pd_add (i := ((hd.dep : Nat) : Int)) (pd_ixM (kvs := ks.map kvD) (d := .int (hd.dep : Nat)) hr (keyD_S hd.k) (List.mem_map.mpr ⟨hd, hdks, rfl⟩) (fun d' hd' => ?_) (pm_own 2) (pd_var 4)) pd_int) rfl) (pd_var 5) ?_
          · obtain ⟨e2, he2, q⟩ := List.mem_map.mp hd'
            have q1 : eS e2.k = eS hd.k := congrArg Prod.fst q
            have : e2 = hd := ent_one Mk.nd he2 hdks (eS_inj q1)
            have q2 : (kvD e2).2 = d' := congrArg Prod.snd q
            rw [← q2, this]
            rfl
          refine ss_append 3 (xs := ((ks.map (·.k)).drop (i + 1)).map eS) (T := Is (eS t)) (pd_imp (pd_var 5) fun d hd => ⟨_, rfl, hd⟩) (by rw [List.length_map, List.length_drop, List.length_map]; omega) (fun y hy => ?_)
          cases hy
          refine ss_nil ?_
          have hle : i + 1 ≤ (ks.map (·.k)).length := by
            rw [List.length_map, emm, List.length_append]
            omega
          rw [eg, List.map_append, List.map_append, List.drop_append_of_le_length hle, List.map_append]
          rfl
        · have hq : t ∈ ks.map (·.k) := by
            have hq : false = !decide (t ∈ ks.map (·.k)) := hq
            exact of_decide_eq_true (nb' hq.symm)
          have eg : grow1 hd ks t = ks := by
            unfold grow1
            rw [if_pos hq]
          rw [eg]
          rfl
      · obtain ⟨a, rfl⟩ := hI
        rw [List.take_length, ← enext]
        refine ss_nil ⟨(i + 1, .d (.p (eS hd.k)), a), ?_, ?_, rfl⟩
        · obtain ⟨m, e⟩ := growAt_pre (stepsB b) (grown (stepsB b) s i) i
          show i + 1 ≤ (grown (stepsB b) s (i + 1)).length
          rw [grown, e, List.length_append]
          omega
        · have := R.few i
          show 1001 - (i + 1) < 1001 - i
          omega
    · obtain ⟨i, o1, o2⟩ := i
      have hi : i ≤ (grown (stepsB b) s i).length := hi
      have hz : ((grown (stepsB b) s i).map (·.k)).drop i = [] := of_decide_eq_true (nb' ht)
      have hn : (grown (stepsB b) s i).length ≤ i := by
        have := congrArg List.length hz
        rw [List.length_drop, List.length_map] at this
        simp at this
        omega
      have h1 := R.few i
      refine ss_retM 2 ?_
      show Dd.dic ((grown (stepsB b) s i).map kvD) = .dic ((grown (stepsB b) s 1001).map kvD)
      rw [grown_full hn 1001 (by omega)]
end
end K62
/-! the law's own reader of roads -/
namespace K62
open PySem PySem.Spec PyProof.Rows L2
def layShape (n : Nat) (d : PyData) : Bool := d.isTuple && (decide ((itemsD d).length = n) && (vecOf d).all fun x => decide (0 ≤ x))
def stkShape (n l : Nat) (d : PyData) : Bool := d.isTuple && ((decide (1 ≤ (itemsD d).length) && decide ((itemsD d).length ≤ 8)) && (decide ((itemsD d).length = l) && (itemsD d).all (layShape n)))
def shapeL (n : Nat) (d : PyData) : Bool := d.isTuple && (!decide ((itemsD d).length = 0) && (itemsD d).all (stkShape n (itemsD ((itemsD d).headD .none)).length))
def consec (b ts : List Stk) : Bool := (List.range (ts.length - 1)).all fun i => decide (ts.getD (i + 1) [] ∈ stepsB b (ts.getD i []))
def lawRoad (n : Nat) (b : List Stk) (d : PyData) : Bool := shapeL n d && consec b ((itemsD d).map stkOf)
/-- what the reader can be given here -/
structure Rdy (F : Frm) (b : List Stk) (d : PyData) : Prop where
  g : GF F
  can : ∀ p ∈ b, patBy p = p
  lay : ∀ x ∈ itemsD d, x.isTuple = true → ∀ l ∈ itemsD x, l.isTuple = true → ∃ v, l = eV v
  stk : shapeL (cellsN F) d = true → ∀ x ∈ itemsD d, ∃ t, x = eS t ∧ StepC (cellsN F) b t
  few : (itemsD d).length ≤ 1001
theorem neg_filter {v : Vec} : decide ((v.filter fun x => decide (x < 0)) = []) = v.all fun x => decide (0 ≤ x) := by
  induction v with
  | nil => rfl
  | cons x v ih =>
    by_cases h : x < 0
    · rw [List.filter_cons_of_pos (by simpa using h), List.all_cons, decide_eq_false (show ¬ 0 ≤ x by omega), Bool.false_and]
      exact decide_eq_false (by simp)
    · rw [List.filter_cons_of_neg (by simpa using h), List.all_cons, decide_eq_true (show 0 ≤ x by omega), Bool.true_and]
      exact ih
theorem sh_LI (v : List Int) : SeqAt.shaped (.list (v.map .int)) = true := by
  have h := sh_V v
  unfold SeqAt.shaped at h ⊢
  rw [Bool.and_eq_true] at h ⊢
  have e : (PyData.list (v.map .int)).depth = (eV v).depth := by simp [eV, PyData.depth]
  refine ⟨?_, ?_⟩
  · have := h.1
    simpa [eV, PyData.canLay0] using this
  · rw [e]; exact h.2
theorem eqv_LI (v : List Int) : PyData.eqv (.list (v.map .int)) (.list (([] : List Int).map .int)) = decide (v = []) := by
  cases v with
  | nil => simp [PyData.eqv, PyData.eqvAll]
  | cons x v => simp [PyData.eqv, PyData.eqvAll]
theorem dec_lt (a b : Nat) : decide ((a : Int) ≤ (b : Int)) = decide (a ≤ b) := le_cast a b
theorem pw_eq {X : Cx} {e : Expr} {κ : Pw} {Γ : List Sl} {d d' : Bool} (h : PW X e (tT κ Γ (Is d))) (m : d = d') : PW X e (tT κ Γ (Is d')) := m ▸ h
section
variable {P : Program} {w : World} {K : PySem.W.Frag} {mg : Str → Option Value} {base : Heap}
abbrev φ94 : Ph := phD (fun i : Frm × List Stk × PyData => Rdy i.1 i.2.1 i.2.2) (fun i => [.p (eF i.1), .p (eB i.2.1), .p i.2.2]) (fun i => IsB (lawRoad (cellsN i.1) i.2.1 i.2.2))
def ok94 (T : Tx K mg) : Cal P w K mg base 7 "_law_is_road" ["_law_frame", "_law_patterns", "_law_value"] φ94 :=
  let q86 := ok86 (P := P) (w := w) (base := base) T
  T.a94.cal fun F => fnG F c94 (fun ds Rd Rn h => by obtain ⟨d, _, rfl, _⟩ := h; rfl) fun cdv A outer st H hG hr ds Rd Rn h => by
    obtain ⟨⟨F, b, d⟩, I, rfl, rfl, rfl⟩ := h
    have I : Rdy F b d := I
    have g := I.g
    obtain ⟨r, R, eF1⟩ := g.cons
    have hcell : ∀ {X : Cx} {Γ : List Sl} {x : Str} {p1 p2 p3 p4 p5 : Pos} {j1 j2}, PE X (.Name x p1) (tD (pwOf X) Γ (IsP (eF F))) → PE X (.Subscript (.Subscript (.Name x p1) (.Constant (.int 1) j1 p2) p3) (.Constant (.int 0) j2 p4) p5) (tD (pwOf X) Γ (IsP (eV r))) := fun h => pd_ixT (xs := eV r :: R.map eV) (pd_ixT (xs := [.str "frame", .tuple (F.map eV)]) h pd_int (by rw [eF1]; exact at1)) pd_int at0
    have hrl : r.length = cellsN F := by rw [eF1]; rfl
    have hcs := g.cells
    refine ss_ifr (b := !(d.isTuple && !decide ((itemsD d).length = 0))) (pt_eq (PW.pt (pwb_or1 (y := decide ((itemsD d).length = 0)) (ptb_not1 (pt_b (pd_isi (pd_var 2) (kit_data d).2.2.2.1 rfl T.z_isinstance rfl T.z_tuple bt_tuple))) fun h1 => ?_)) ?_) (fun z => ?_) fun z => ?_
    · obtain ⟨xs, rfl⟩ := isTuple_tup (nb' h1)
      exact pwb_oneO (pt_eq (ptc_eqI hr (pd_lenT T.z_len (pd_var 2)) pd_int) (dec_cast xs.length 0))
    · simp only [Bool.not_and, Bool.not_not]
    · refine ss_ret pd_bl fun e he => ?_
      cases he
      have z2 := nb z
      show Dd.p (.bool false) = .p (.bool (lawRoad (cellsN F) b d))
      unfold lawRoad shapeL
      rw [← Bool.and_assoc, z2, Bool.false_and, Bool.false_and]
    have z2 := nb' z
    have z3 := z2
    rw [Bool.and_eq_true] at z3
    obtain ⟨xs, rfl⟩ := isTuple_tup z3.1
    have hne : xs.length ≠ 0 := of_decide_eq_false (nb z3.2)
    obtain ⟨x0, xs', ex⟩ : ∃ x0 xs', xs = x0 :: xs' := by
      cases xs with
      | nil => exact absurd rfl hne
      | cons a l => exact ⟨a, l, rfl⟩
    obtain ⟨L, eL⟩ : ∃ L, L = (itemsD (xs.headD .none)).length := ⟨_, rfl⟩
    have hx0 : xs.headD .none = x0 := by rw [ex]; rfl
    have hfalse : ∀ x ∈ xs, stkShape (cellsN F) L x = false → lawRoad (cellsN F) b (.tuple xs) = false := fun x hx hz => by
      have : shapeL (cellsN F) (.tuple xs) = false := by
        unfold shapeL
        have h1 : xs.all (stkShape (cellsN F) (itemsD (xs.headD .none)).length) = false := List.all_eq_false.mpr ⟨x, hx, by rw [← eL, hz]; decide⟩
        show (_ && (_ && xs.all (stkShape (cellsN F) (itemsD (xs.headD .none)).length))) = false
        rw [h1, Bool.and_false, Bool.and_false]
      unfold lawRoad
      rw [this, Bool.false_and]
    refine ss_for (as := xs) (I := fun i Γ => (∀ y ∈ xs.take i, stkShape (cellsN F) L y = true) ∧ ∃ o1 o2 o3 o4, Γ = [.d (.p (eF F)), .d (.p (eB b)), .d (.p (.tuple xs)), o1, o2, o3, o4]) rfl PassesOwn.never (src_tup (j := 3) (enc := id) (pdp_eq (pd_var 2) (by rw [List.map_id]))) (pg_name (i := 3) c94.nd rfl (.inl rfl)) ⟨fun y hy => by simp at hy, .any, .any, .any, .any, rfl⟩ (fun i x Γ' hi hI => ?_) (fun Γ' hI => ?_)
    · obtain ⟨hpre, o1, o2, o3, o4, rfl⟩ := hI
      have hxm : x ∈ xs := List.mem_of_getElem? hi
      have h0T : x.isTuple = true → x0.isTuple = true := fun hx => by
        cases i with
        | zero =>
          rw [ex] at hi
          cases hi
          exact hx
        | succ i =>
          have := hpre x0 (by rw [ex]; exact List.mem_cons_self)
          unfold stkShape at this
          rw [Bool.and_eq_true] at this
          exact this.1
      refine ss_ifr (b := !(x.isTuple && ((decide (1 ≤ (itemsD x).length) && decide ((itemsD x).length ≤ 8)) && decide ((itemsD x).length = L)))) (pt_eq (PW.pt (pwb_or1 (y := !((decide (1 ≤ (itemsD x).length) && decide ((itemsD x).length ≤ 8)) && decide ((itemsD x).length = L))) (ptb_not1 (pt_b (pd_isi (pd_var 3) (kit_data x).2.2.2.1 rfl T.z_isinstance rfl T.z_tuple bt_tuple))) fun h1 => ?_)) ?_) (fun z => ?_) fun z => ?_
      · have hxT := nb' h1
        obtain ⟨ys, ey⟩ := isTuple_tup hxT
        obtain ⟨us, eu⟩ := isTuple_tup (h0T hxT)
        have eLu : L = us.length := by rw [eL, hx0, eu]; rfl
        have eyl : (itemsD x).length = ys.length := by rw [ey]; rfl
        refine pw_eq (pwb_or1 (ptb_not1 (ptc_lele pd_int (pd_lenT (xs := ys) T.z_len (pdp_eq (pd_var 3) ey)) pd_int)) fun _ => pwb_oneO (ptc_neI hr (pd_lenT (xs := ys) T.z_len (pdp_eq (pd_var 3) ey)) (pd_lenT (xs := us) T.z_len (pdp_eq (pd_ixT (xs := xs) (d := x0) (pd_var 2) pd_int (by rw [ex]; exact at0)) eu)))) ?_
        rw [eyl, eLu, dec_cast, show decide ((1 : Int) ≤ (ys.length : Int)) = decide (1 ≤ ys.length) from le_cast 1 _, show decide ((ys.length : Int) ≤ 8) = decide (ys.length ≤ 8) from le_cast _ 8]
        simp only [Bool.not_and]
      · simp only [Bool.not_and]
      · refine ss_ret pd_bl fun e he => ?_
        cases he
        have z2 := nb z
        show Dd.p (.bool false) = .p (.bool (lawRoad (cellsN F) b (.tuple xs)))
        rw [hfalse x hxm (by
          unfold stkShape
          rw [← Bool.and_assoc] at z2 ⊢
          rw [← Bool.and_assoc, z2, Bool.false_and])]
      have z2 := nb' z
      have z3 := z2
      rw [Bool.and_eq_true] at z3
      have hxT := z3.1
      obtain ⟨ys, ey⟩ := isTuple_tup hxT
      have eyi : itemsD x = ys := by rw [ey]; rfl
      have hsf : ∀ l ∈ ys, layShape (cellsN F) l = false → stkShape (cellsN F) L x = false := fun l hl hz => by
        unfold stkShape
        rw [eyi, show ys.all (layShape (cellsN F)) = false from List.all_eq_false.mpr ⟨l, hl, by rw [hz]; decide⟩]
        simp
      refine ss_for (as := ys) (I := fun j Γ => (∀ y ∈ ys.take j, layShape (cellsN F) y = true) ∧ ∃ o2 o3 o4, Γ = [.d (.p (eF F)), .d (.p (eB b)), .d (.p (.tuple xs)), .d (.p x), o2, o3, o4]) rfl PassesOwn.never (src_tup (j := 4) (enc := id) (pdp_eq (pd_var 3) (by rw [List.map_id]; exact ey))) (pg_name (i := 4) c94.nd rfl (.inl rfl)) ⟨fun y hy => by simp at hy, o2, o3, o4, rfl⟩ (fun j l Γ' hj hI => ?_) (fun Γ' hI => ?_)
      · obtain ⟨hpre2, o2, o3, o4, rfl⟩ := hI
        have hlm : l ∈ ys := List.mem_of_getElem? hj
        refine ss_ifr (b := !(l.isTuple && decide ((itemsD l).length = cellsN F))) (pt_eq (PW.pt (pwb_or1 (y := !decide ((itemsD l).length = cellsN F)) (ptb_not1 (pt_b (pd_isi (pd_var 4) (kit_data l).2.2.2.1 rfl T.z_isinstance rfl T.z_tuple bt_tuple))) fun h1 => ?_)) ?_) (fun z => ?_) fun z => ?_
        · obtain ⟨ws, ew⟩ := isTuple_tup (nb' h1)
          have ewl : (itemsD l).length = ws.length := by rw [ew]; rfl
          refine pw_eq (pwb_oneO (ptc_neI hr (pd_lenT (xs := ws) T.z_len (pdp_eq (pd_var 4) ew)) (pd_lenT (xs := r.map .int) T.z_len (hcell (pd_var 0))))) ?_
          rw [List.length_map, hrl, ewl, dec_cast]
        · simp only [Bool.not_and]
        · refine ss_ret pd_bl fun e he => ?_
          cases he
          have w2 := nb z
          show Dd.p (.bool false) = .p (.bool (lawRoad (cellsN F) b (.tuple xs)))
          rw [hfalse x hxm (hsf l hlm (by
            unfold layShape
            rw [← Bool.and_assoc, w2, Bool.false_and]))]
        have w2 := nb' z
        have w3 := w2
        rw [Bool.and_eq_true] at w3
        obtain ⟨v, ev⟩ := I.lay x hxm hxT l (by rw [eyi]; exact hlm) w3.1
        have elay : layShape (cellsN F) l = v.all fun x => decide (0 ≤ x) := by
          unfold layShape
          rw [← Bool.and_assoc, w2, Bool.true_and, ev, vecOf_eV]
        refine ss_ifr (b := !v.all fun x => decide (0 ≤ x)) (pt_eq (ptc_neL hr (sh_LI (v.filter fun x => decide (x < 0))) (sh_LI []) (pn_l (pn_c1T (f := .int) (t := fun x : Int => decide (x < 0)) (as := v) 5 c94.nd (src_tup (enc := .int) (pdp_eq (pd_var 4) ev)) (fun x hx _ _ _ _ _ => pt_eq (PW.pt (pwb_or1 (pt_b (pd_isi (pd_var 5) (kit_data (.int x)).2.1 rfl T.z_isinstance rfl T.z_bool bt_bool)) fun _ => pwb_or1 (ptb_not1 (pt_b (pd_isi (pd_var 5) (kit_data (.int x)).1 rfl T.z_isinstance rfl T.z_int bt_int))) fun _ => pwb_oneO (ptc_lt (pd_var 5) pd_int))) (by simp [PyData.isBool, PyData.isInt])) fun x hx _ _ _ _ _ _ => pd_var 5)) (pn_l (pn_lst (xs := []) ps_nil rfl (by simp)))) (by rw [eqv_LI, neg_filter])) (fun z => ?_) fun z => ?_
        · refine ss_ret pd_bl fun e he => ?_
          cases he
          show Dd.p (.bool false) = .p (.bool (lawRoad (cellsN F) b (.tuple xs)))
          rw [hfalse x hxm (hsf l hlm (by rw [elay]; exact nb z))]
        refine ss_nil ⟨fun y hy => ?_, _, o3, o4, rfl⟩
        rw [List.take_add_one, hj] at hy
        rcases List.mem_append.mp hy with q | q
        · exact hpre2 y q
        · rw [List.mem_singleton.mp q, elay]
          exact nb' z
      · obtain ⟨hall, o2, o3, o4, rfl⟩ := hI
        rw [List.take_length] at hall
        refine ss_nil ⟨fun y hy => ?_, _, o2, o3, o4, rfl⟩
        rw [List.take_add_one, hi] at hy
        rcases List.mem_append.mp hy with q | q
        · exact hpre y q
        · rw [List.mem_singleton.mp q]
          unfold stkShape
          rw [← Bool.and_assoc] at z2 ⊢
          rw [← Bool.and_assoc, z2, eyi, List.all_eq_true.mpr hall]
          rfl
    · obtain ⟨hall, o1, o2, o3, o4, rfl⟩ := hI
      rw [List.take_length] at hall
      have hshape : shapeL (cellsN F) (.tuple xs) = true := by
        unfold shapeL
        have h1 : xs.all (stkShape (cellsN F) (itemsD (xs.headD .none)).length) = true := by
          rw [← eL]
          exact List.all_eq_true.mpr hall
        show (_ && (_ && xs.all (stkShape (cellsN F) (itemsD (xs.headD .none)).length))) = true
        rw [h1, Bool.and_true]
        exact z2
      obtain ⟨ts, ets⟩ : ∃ ts, ts = xs.map stkOf := ⟨_, rfl⟩
      have hstk : ∀ x ∈ xs, ∃ t, x = eS t ∧ StepC (cellsN F) b t := I.stk hshape
      have exs : xs = ts.map eS := by
        rw [ets, List.map_map]
        conv => lhs; rw [← List.map_id xs]
        refine List.map_congr_left fun x hx => ?_
        obtain ⟨t, et, _⟩ := hstk x hx
        show x = eS (stkOf x)
        rw [et, stkOf_eS]
      have htl : ts.length = xs.length := by rw [ets, List.length_map]
      have hget : ∀ i, i < ts.length → xs[i]? = some (eS (ts.getD i [])) := fun i hi => by
        rw [exs, List.getElem?_map, List.getD_eq_getElem?_getD, List.getElem?_eq_getElem hi]
        rfl
      have hst : ∀ i, i < ts.length → StepC (cellsN F) b (ts.getD i []) := fun i hi => by
        obtain ⟨t, et, C⟩ := hstk _ (List.mem_of_getElem? (hget i hi))
        rw [eS_inj et]
        exact C
      have hfew : xs.length ≤ 1001 := I.few
      refine ss_ret (pdp_eq (pd_allN (f := fun i => decide (ts.getD (i + 1) [] ∈ stepsB b (ts.getD i []))) (as := List.range (ts.length - 1)) T.z_all (pn_c1 6 c94.nd (src_range1 (n := ts.length - 1) rfl T.z_range (by omega) (pdp_eq (pd_sub (pd_lenT (xs := xs) T.z_len (pd_var 2)) pd_int) (by congr 1; omega))) fun i hi _ _ _ _ _ => pdp_eq (pd_inL hr (sh_S (ts.getD (i + 1) [])) (sh_LS (stepsB b (ts.getD i []))) (pd_ixT (xs := xs) (pd_var 2) (pdp_eq (pd_add (pd_var 6) pd_int) (d' := .int ((i + 1 : Nat) : Int)) rfl) (atN (hget _ (by have := List.mem_range.mp hi; omega)))) (pn_l (pn_eq (pn_c q86 ⟨(b, ts.getD i []), ⟨_, hst i (by have := List.mem_range.mp hi; omega)⟩, rfl, rfl, rfl⟩ hG hr (ps_cons (pd_var 1) (ps_cons (pd_ixT (xs := xs) (pd_var 2) (pd_var 6) (atN (hget _ (by have := List.mem_range.mp hi; omega)))) ps_nil))) (by rw [lawSteps_eq I.can])))) (by rw [any_memS]))) ?_) fun d h => h
      show _ = PyData.bool (lawRoad (cellsN F) b (.tuple xs))
      unfold lawRoad
      rw [hshape, Bool.true_and]
      show _ = PyData.bool (consec b (xs.map stkOf))
      rw [← ets]
      rfl
end
end K62
/-! texts of data -/
namespace K62
open PySem PySem.Spec PyProof.Rows L2
structure Shw (n k : Nat) (d : PyData) : Prop where
  sh : d.showable = true
  nd : d.hasDict = false
  lv : d.leavesShort 13 = true
  dp : d.depth ≤ k
  bk : d.bulk ≤ n
theorem shw_int {i : Int} (h : -100 ≤ i ∧ i ≤ 100) : Shw 0 0 (.int i) := by
  refine ⟨?_, by simp [PyData.hasDict], ?_, by simp [PyData.depth], by simp [PyData.bulk]⟩
  · have : i.natAbs.log2 < 1920 := by
      have h1 : i.natAbs ≤ 100 := by omega
      have h2 := Nat.log2_le_self i.natAbs
      omega
    simp [PyData.showable, this]
  · have := PyData.shown_int_le2 (i := i) (by omega) (by omega)
    simp only [PyData.leavesShort]
    exact decide_eq_true this
theorem shw_bool (b : Bool) : Shw 0 0 (.bool b) := ⟨by simp [PyData.showable], by simp [PyData.hasDict], by simp [PyData.leavesShort], by simp [PyData.depth], by simp [PyData.bulk]⟩
theorem shw_all {n k : Nat} : ∀ {xs : List PyData}, (∀ x ∈ xs, Shw n k x) → PyData.showableAll xs = true ∧ PyData.hasDictAll xs = false ∧ PyData.leavesShortAll 13 xs = true ∧ PyData.depthAll xs ≤ k ∧ PyData.bulkAll xs ≤ xs.length * (n + 1)
  | [], _ => ⟨by simp [PyData.showableAll], by simp [PyData.hasDictAll], by simp [PyData.leavesShortAll], by simp [PyData.depthAll], by simp [PyData.bulkAll]⟩
  | x :: xs, h => by
    obtain ⟨a, b, c, d, e⟩ := shw_all (n := n) (k := k) (xs := xs) fun y hy => h y (List.mem_cons_of_mem _ hy)
    have X := h x List.mem_cons_self
    refine ⟨by simp only [PyData.showableAll, X.sh, a, Bool.and_self], by simp only [PyData.hasDictAll, X.nd, b, Bool.or_self], by simp only [PyData.leavesShortAll, X.lv, c, Bool.and_self], ?_, ?_⟩
    · simp only [PyData.depthAll]
      have := X.dp
      omega
    · simp only [PyData.bulkAll, List.length_cons]
      have := X.bk
      rw [Nat.succ_mul]
      omega
theorem shw_tup {n k : Nat} {xs : List PyData} (h : ∀ x ∈ xs, Shw n k x) : Shw (xs.length * (n + 1)) (k + 1) (.tuple xs) := by
  obtain ⟨a, b, c, d, e⟩ := shw_all h
  exact ⟨by simp only [PyData.showable, a], by simp only [PyData.hasDict, b], by simp only [PyData.leavesShort, c], by simp only [PyData.depth]; omega, by simp only [PyData.bulk]; omega⟩
theorem shw_lst {n k : Nat} {xs : List PyData} (h : ∀ x ∈ xs, Shw n k x) : Shw (xs.length * (n + 1)) (k + 1) (.list xs) := by
  obtain ⟨a, b, c, d, e⟩ := shw_all h
  exact ⟨by simp only [PyData.showable, a], by simp only [PyData.hasDict, b], by simp only [PyData.leavesShort, c], by simp only [PyData.depth]; omega, by simp only [PyData.bulk]; omega⟩
theorem Shw.mono {n k n' k' : Nat} {d : PyData} (h : Shw n k d) (h1 : n ≤ n') (h2 : k ≤ k') : Shw n' k' d := ⟨h.sh, h.nd, h.lv, Nat.le_trans h.dp h2, Nat.le_trans h.bk h1⟩
theorem Shw.line {n k : Nat} {d : PyData} (h : Shw n k d) (hn : n ≤ 1000000) : d.shown.length ≤ sizeLine := by
  have h1 := PyData.shown_le_bulk 13 (by decide) d h.lv
  have h2 := h.bk
  rw [sizeLine_eq]
  omega
/-- rows of at most three small ints, stacks of at most three of them -/
theorem shw_V {v : Vec} (hl : v.length ≤ 3) (h : ∀ x ∈ v, -100 ≤ x ∧ x ≤ 100) : Shw 3 1 (eV v) := by
  have := shw_tup (n := 0) (k := 0) (xs := v.map .int) fun d hd => by
    obtain ⟨x, hx, rfl⟩ := List.mem_map.mp hd
    exact shw_int (h x hx)
  rw [List.length_map] at this
  exact this.mono (by omega) (Nat.le_refl _)
theorem shw_S {s : Stk} (hl : s.length ≤ 3) (h : ∀ v ∈ s, v.length ≤ 3 ∧ ∀ x ∈ v, -100 ≤ x ∧ x ≤ 100) : Shw 12 2 (eS s) := by
  have := shw_tup (n := 3) (k := 1) (xs := s.map eV) fun d hd => by
    obtain ⟨v, hv, rfl⟩ := List.mem_map.mp hd
    exact shw_V (h v hv).1 (h v hv).2
  rw [List.length_map] at this
  exact this.mono (by omega) (Nat.le_refl _)
theorem shw_LS {l : List Stk} (hl : l.length ≤ 1000) (h : ∀ s ∈ l, Shw 12 2 (eS s)) : Shw 13000 3 (.list (l.map eS)) := by
  have := shw_lst (n := 12) (k := 2) (xs := l.map eS) fun d hd => by
    obtain ⟨v, hv, rfl⟩ := List.mem_map.mp hd
    exact h v hv
  rw [List.length_map] at this
  exact this.mono (by omega) (Nat.le_refl _)
theorem shw_B {l : List Stk} (hl : l.length ≤ 1000) (h : ∀ s ∈ l, Shw 12 2 (eS s)) : Shw 13000 3 (eB l) := by
  have := shw_tup (n := 12) (k := 2) (xs := l.map eS) fun d hd => by
    obtain ⟨v, hv, rfl⟩ := List.mem_map.mp hd
    exact h v hv
  rw [List.length_map] at this
  exact this.mono (by omega) (Nat.le_refl _)
section
variable {X : Cx} {e a b : Expr} {pos p : Pos} {Γ : List Sl} {κ : Pw} {k : Nat} {ty : Str}
theorem cr_reprL {xs : List PyData} {n m : Nat} (hG : X.A.guards = some []) (hr : Room k X.A) (hs : Shw n m (.list xs)) (hn : n ≤ 1000000) (hm : m ≤ 20) : CallR X (.builtin "repr") (rL (pwOf X) (Is xs) (IsP (.str (PyData.list xs).shown))) := by
  intro pins s σ H vs us Q I rv ⟨a, us', ds, B, ev, e, h1, h2, t, q⟩
  subst ev
  cases t
  cases rv with
  | cons rv rt =>
    cases rt
    have hd : Dp X.K H (.ref a) (.list xs) := .lst h1 (dpAll_mono e _ _ h2)
    obtain ⟨as, r1⟩ := Dp.reads I (.list xs) (.ref a) _ hd rv
    obtain ⟨a', ea⟩ := isRef_of_reads r1 rfl
    subst ea
    have hdep := hs.dp
    exact repr_of_reads' r1 hs.sh (PyData.noDict_hsm hs.nd) hG (by have := hr.units; omega) (fun _ _ h => h) (fun h' u tk k => ⟨.str (PyData.list xs).shown, H, I.kept k, ⟨u, rfl⟩, q _ _ B H (Ext.refl e) rfl (Dp.str _)⟩) (hs.line hn)
theorem cr_reprB {c : Bool} : CallR X (.builtin "repr") (rD (pwOf X) [.p (.bool c)] (IsP (.str (if c then "True" else "False")))) := by
  intro pins s σ H vs us Q I rv ⟨B, e, r0, q⟩
  obtain ⟨v, rfl, r⟩ := rep1 r0
  cases rep_bool r
  cases rv with
  | cons rv rt =>
    cases rt
    cases (show _ = Value.bool c from rv)
    exact PySem.P.repr_of_bool ⟨.str (if c then "True" else "False"), H, I.tok _, ⟨_, rfl⟩, q _ _ B H (Ext.refl e) rfl (Dp.str _)⟩
theorem pd_reprL {xs : List PyData} {n m : Nat} (hm : X.mg "repr" = none) (hG : X.A.guards = some []) (hr : Room k X.A) (hs : Shw n m (.list xs)) (hn : n ≤ 1000000) (hm2 : m ≤ 20) (ha : PE X e (tL (pwOf X) Γ (Is xs))) (hg : Gl X "repr" := by rfl) (hst : starEach [e] X.env = (false, eval e X.env) :: starEach [] X.env := by rfl) : PE X (.Call (.Name "repr" p) [e] [] pos) (tD (pwOf X) Γ (IsP (.str (PyData.list xs).shown))) :=
  pd_BL (cr_reprL hG hr hs hn hm2) hg hm bt_repr ha (by decide) (by decide) hst
theorem pd_reprB {c : Bool} (hm : X.mg "repr" = none) (ha : PE X e (tD (pwOf X) Γ (IsB c))) (hg : Gl X "repr" := by rfl) (hst : starEach [e] X.env = (false, eval e X.env) :: starEach [] X.env := by rfl) : PE X (.Call (.Name "repr" p) [e] [] pos) (tD (pwOf X) Γ (IsP (.str (if c then "True" else "False")))) :=
  pd_B cr_reprB hg hm bt_repr (ps_cons ha ps_nil hst) (by decide) (by decide) hst rfl
/-! texts compared -/
theorem does_eqT {x y : Str} : Does κ rEq (.p (.str x)) (.p (.str y)) (IsB (decide (x = y))) := fun B H v w e r1 r2 Q q => by
  cases rep_str r1
  cases rep_str r2
  refine ⟨rfl, ?_⟩
  have : decide (V.str x = V.str y) = decide (x = y) := by
    by_cases h : x = y
    · subst h; simp
    · rw [decide_eq_false h, decide_eq_false fun z => h (by injection z)]
  rw [this]
  exact q _ _ B H (Ext.refl e) rfl (Dp.bl _)
theorem does_neT {x y : Str} : Does κ rNe (.p (.str x)) (.p (.str y)) (IsB (!decide (x = y))) := fun B H v w e r1 r2 Q q => by
  cases rep_str r1
  cases rep_str r2
  refine ⟨rfl, ?_⟩
  have : decide (V.str x = V.str y) = decide (x = y) := by
    by_cases h : x = y
    · subst h; simp
    · rw [decide_eq_false h, decide_eq_false fun z => h (by injection z)]
  rw [this]
  exact q _ _ B H (Ext.refl e) rfl (Dp.bl _)
theorem pd_eqT {x y : Str} (ha : PE X a (tD κ Γ (IsP (.str x)))) (hb : PE X b (tD κ Γ (IsP (.str y)))) : PE X (.Compare a [.Eq] [b] pos) (tD κ Γ (IsB (decide (x = y)))) := pd_cmp op_eq (nomark _) (is2 does_eqT) ha hb
theorem ptc_neT {x y : Str} (ha : PE X a (tD κ Γ (IsP (.str x)))) (hb : PE X b (tD κ Γ (IsP (.str y)))) : PT X (.Compare a [.NotEq] [b] pos) (tT κ Γ (Is (!decide (x = y)))) := pt_op op_ne (nomark _) (is2 (does_is does_neT)) ha hb
end
section
variable {X : Cx} {e a b c : Expr} {es : List Expr} {pos p : Pos} {Γ : List Sl} {k : Nat} {P : Program} {w : World} {K : PySem.W.Frag} {mg : Str → Option Value} {base : Heap} {x : Str} {ps ks : List Str} {φ : Ph}
/-- calls whose arguments are not told exactly -/
theorem pd_cX {T : List Dd → Prop} {S : Dd → Prop} (c : Cal P w K mg base k x ps φ) (hφ : ∀ ds, T ds → ∃ Rd, φ ds Rd Nn ∧ ∀ d, Rd d → S d) (hG : X.A.guards = some []) (hr : Room k X.A) (ha : PA X (e :: es) (tA (pwOf X) Γ T)) (h1 : X.prog = P := by rfl) (h2 : X.w = w := by rfl) (h3 : X.K = K := by rfl) (h4 : X.mg = mg := by rfl) (h5 : X.base = base := by rfl) (hg : Gl X x := by rfl) (hdb : (x == ("__debug__" : Str)) = false := by decide)
    (he : starEach (e :: es) X.env = (false, eval e X.env) :: starEach es X.env := by rfl) (hpl : (backTo pos (starEach es X.env)).any (·.1) = false := by rfl) : PE X (.Call (.Name x p) (e :: es) [] pos) (tD (pwOf X) Γ S) := by
  subst h1 h2 h3 h4 h5
  exact pe_mono (pe_g c.F hG hr hg c.m c.kp c.b ha hdb he hpl) fun σ H Q ⟨H0, B, E, q⟩ => ⟨H0, B, E, fun vs ds' B1 H1 e1 s1 r => by
    obtain ⟨Rd, h, m⟩ := hφ ds' s1
    exact spG_d (H0 := H0) h e1 r fun v d B' H' e s r => q v d B' H' e (m d s) r⟩
theorem pn_cX {T : List Dd → Prop} {S : List PyData → Prop} (c : Cal P w K mg base k x ps φ) (hφ : ∀ ds, T ds → ∃ Rn, φ ds Nd Rn ∧ ∀ d, Rn d → S d) (hG : X.A.guards = some []) (hr : Room k X.A) (ha : PA X (e :: es) (tA (pwOf X) Γ T)) (h1 : X.prog = P := by rfl) (h2 : X.w = w := by rfl) (h3 : X.K = K := by rfl) (h4 : X.mg = mg := by rfl) (h5 : X.base = base := by rfl) (hg : Gl X x := by rfl) (hdb : (x == ("__debug__" : Str)) = false := by decide)
    (he : starEach (e :: es) X.env = (false, eval e X.env) :: starEach es X.env := by rfl) (hpl : (backTo pos (starEach es X.env)).any (·.1) = false := by rfl) : PE X (.Call (.Name x p) (e :: es) [] pos) (tN (pwOf X) Γ S) := by
  subst h1 h2 h3 h4 h5
  exact pe_mono (pe_g c.F hG hr hg c.m c.kp c.b ha hdb he hpl) fun σ H Q ⟨H0, B, E, q⟩ => ⟨H0, B, E, fun vs ds' B1 H1 e1 s1 r => by
    obtain ⟨Rn, h, m⟩ := hφ ds' s1
    exact spG_n (H0 := H0) h e1 r fun a vs ds B' H' e s => q a vs ds B' H' e (m ds s)⟩
end
end K62
/-! the law on patterns -/
namespace K62
open PySem PySem.Spec PyProof.Rows L2
theorem dot_zero : ∀ (r : Vec) (n : Nat), dot r (List.replicate n 0) = 0
  | [], n => by simp [dot]
  | a :: r, 0 => by simp [dot]
  | a :: r, n + 1 => by
    have ih := dot_zero r n
    unfold dot at ih ⊢
    rw [List.replicate_succ, List.zip_cons_cons, List.map_cons, List.sum_cons, ih]
    simp
theorem zero_chg {F : Frm} : changeIn F (eV (List.replicate (cellsN F) 0)) = true :=
  changeIn_of List.length_replicate (fun r _ => dot_zero r _) fun x hx => by rw [(List.mem_replicate.mp hx).2]; decide
theorem zero_nz (n : Nat) : nzV (List.replicate n 0) = false := by
  unfold nzV
  refine List.any_eq_false.mpr fun x hx => ?_
  rw [(List.mem_replicate.mp hx).2]
  decide
theorem mixed_filter {F : Frm} {cs : List Vec} (C : Chg F cs) (k n : Nat) : (cs.reverse.take k ++ [List.replicate n 0] ++ cs.reverse.drop k).filter nzV = cs.reverse := by
  rw [List.filter_append, List.filter_append, List.filter_cons_of_neg (by rw [zero_nz]; decide), List.filter_nil, List.append_nil, ← List.filter_append, List.take_append_drop]
  exact List.filter_eq_self.mpr fun c hc => C.nz c (List.mem_reverse.mp hc)
theorem patIn_mixed {F : Frm} (g : GF F) {cs : List Vec} (C : Chg F cs) (k : Nat) : PatIn F (cs.reverse.take k ++ [List.replicate (cellsN F) 0] ++ cs.reverse.drop k) := by
  have hl := C.len
  have hf := mixed_filter C k (cellsN F)
  have CR : Chg F cs.reverse := C.perm (List.reverse_perm cs).symm
  refine ⟨g, fun c hc => ?_, ?_, by rw [hf, List.length_reverse]; omega, by rw [hf]; exact CR.adds⟩
  · rcases List.mem_append.mp hc with z | z
    · rcases List.mem_append.mp z with w | w
      · exact CR.chgIn c (List.mem_of_mem_take w)
      · rw [List.mem_singleton.mp w]; exact zero_chg
    · exact CR.chgIn c (List.mem_of_mem_drop z)
  · rw [List.length_append, List.length_append, List.length_take, List.length_drop, List.length_reverse]
    simp
    omega
theorem patIn_of {F : Frm} (g : GF F) {cs : List Vec} (C : Chg F cs) : PatIn F cs := by
  have hf : cs.filter nzV = cs := List.filter_eq_self.mpr fun c hc => C.nz c hc
  have hl := C.len
  exact ⟨g, C.chgIn, by omega, by rw [hf]; omega, by rw [hf]; exact C.adds⟩
theorem Chg.rows {F : Frm} (g : GF F) {cs : List Vec} (C : Chg F cs) : Rows cs := fun v hv e => by
  have := C.row v hv
  have := g.cells
  rw [e] at *
  simp at *
  omega
theorem chg_shw {F : Frm} (g : GF F) {cs : List Vec} (C : Chg F cs) : Shw 12 2 (eS cs) := shw_S C.len.2 fun v hv => ⟨by rw [C.row v hv]; exact g.cells.2, fun x hx => by have := C.ent v hv x hx; omega⟩
theorem posV_shw {F : Frm} (g : GF F) {cs : List Vec} (C : Chg F cs) : Shw 12 2 (eS (cs.map posV)) := by
  refine shw_S (by rw [List.length_map]; exact C.len.2) fun v hv => ?_
  obtain ⟨u, hu, rfl⟩ := List.mem_map.mp hv
  refine ⟨by unfold posV; rw [List.length_map, C.row u hu]; exact g.cells.2, fun x hx => ?_⟩
  obtain ⟨y, hy, rfl⟩ := List.mem_map.mp hx
  have := C.ent u hu y hy
  omega
section
variable {P : Program} {w : World} {K : PySem.W.Frag} {mg : Str → Option Value} {base : Heap}
abbrev φ95 : Ph := phD (fun F : Frm => GF F ∧ smallL F ≠ []) (fun F => [.pot, .p (eF F), .p (.list ((smallL F).map eV))]) (fun _ => IsB true)
def ok95 (T : Tx K mg) : Cal P w K mg base 8 "_law_pattern_right" ["_law_pot_here", "_law_frame", "_law_some"] φ95 :=
  let q92 := ok92 (P := P) (w := w) (base := base) T
  let q84 := ok84 (P := P) (w := w) (base := base) T
  let q76 := ok76 (P := P) (w := w) (base := base) T
  let q67 := ok67 (P := P) (w := w) (base := base) T
  let q65 := ok65 (P := P) (w := w) (base := base) T
  let q68 := ok68 (P := P) (w := w) (base := base) T
  let q88 := ok88 (P := P) (w := w) (base := base) T
  let q82 := ok82 (P := P) (w := w) (base := base) T
  T.a95.cal fun F => fnG F c95 (fun ds Rd Rn h => by obtain ⟨d, _, rfl, _⟩ := h; rfl) fun cdv A outer s H hG hr ds Rd Rn h => by
    obtain ⟨F, ⟨g, hL⟩, rfl, rfl, rfl⟩ := h
    have g : GF F := g
    have hL : smallL F ≠ [] := hL
    have hcs := g.cells
    have hLl : 0 < (smallL F).length ∧ (smallL F).length < 1073741824 := by
      have := small_few F g
      have h0 : (smallL F).length ≠ 0 := fun z => hL (List.length_eq_zero_iff.mp z)
      omega
    obtain ⟨r, R, eF1⟩ := g.cons
    refine ss_setN 3 (pn_c q92 ⟨smallL F, hLl, rfl, rfl, rfl⟩ hG (hr.mono (by decide)) (ps_cons (pd_var 0) (ps_cons (pd_var 2) ps_nil))) (fun ys hys => ?_) c95.nd
    obtain ⟨cs, hdp, rfl⟩ := hys
    have C := drawn_chg hdp
    have hrows := C.rows g
    have hlen := C.len
    have CP : Chg F (patBy cs) := C.pat
    have hidem : patBy (patBy cs) = patBy cs := patBy_idem cs
    have hpv : patVal F (patBy cs) = true := by rw [CP.patVal]; exact decide_eq_true hidem
    refine ss_freeze 3 (ss_par2 4 5 rfl (pv_d (pd_eq (pd_c q84 ⟨cs, hrows, rfl, rfl, rfl⟩ hG (hr.mono (by decide)) (ps_cons (pd_var 3) ps_nil)) (by rw [patL_eq]))) (pv_n (pn_eq (pn_revL (pd_l (pd_var 3))) (show _ = cs.reverse.map eV by rw [List.map_reverse]))) (fun x y hx hy => ?_) c95.nd)
    obtain ⟨d, hd, rfl⟩ := hx
    cases hd
    obtain ⟨ys, hys, rfl⟩ := hy
    cases hys
    refine ss_insert 5 (xs := cs.reverse.map eV) (d := eV (List.replicate (cellsN F) 0)) (pd_draw (k := 6) (n := 3) T q76 hG hr (by decide) (by decide) (pd_var 0) pd_int) (pdp_eq (pd_tupL T.z_tuple (pn_l (pn_rep (d := .int 0) (n := cellsN F) (by omega) (pn_lst (xs := [.int 0]) (ps_cons pd_int ps_nil) rfl (by simp)) (pdp_eq (pd_lenT (xs := r.map .int) T.z_len (pd_ixT (xs := eV r :: R.map eV) (pd_ixT (xs := [.str "frame", .tuple (F.map eV)]) (pd_var 1) pd_int (by rw [eF1]; exact at1)) pd_int at0)) (by rw [List.length_map, eF1]; rfl))))) (eV_zeros _)) (fun y ⟨i, hi, e⟩ => ?_) (by rw [List.length_map, List.length_reverse]; omega) (fun k => ?_)
    · obtain ⟨j, rfl⟩ := Int.eq_ofNat_of_zero_le hi.1
      exact ⟨j, e, by omega⟩
    refine ss_freeze 5 ?_
    obtain ⟨mx, emx⟩ : ∃ mx, mx = cs.reverse.take k ++ [List.replicate (cellsN F) 0] ++ cs.reverse.drop k := ⟨_, rfl⟩
    have hmx : (cs.reverse.map eV).take k ++ [eV (List.replicate (cellsN F) 0)] ++ (cs.reverse.map eV).drop k = mx.map eV := by
      rw [emx, List.map_append, List.map_append, List.map_take, List.map_drop]
      rfl
    have PM : PatIn F mx := by rw [emx]; exact patIn_mixed g C k
    have hmf : patBy (mx.filter nzV) = patBy cs := by
      rw [emx, mixed_filter C, patBy_perm (List.reverse_perm cs)]
    have hcf : patBy (cs.filter nzV) = patBy cs := by
      rw [show cs.filter nzV = cs from List.filter_eq_self.mpr fun c hc => C.nz c hc]
    rw [hmx]
    refine ss_ifr (b := false) (pt_eq (PW.pt (pwb_or1 (ptc_neD hr (sh_S (patBy (mx.filter nzV))) (sh_S (patBy cs)) (pd_c q67 ⟨(F, false, mx), PM, rfl, rfl, rfl⟩ hG (hr.mono (by decide)) (ps_cons (pd_var 1) (ps_cons (pd_var 5) ps_nil))) (pd_var 4)) fun _ => pwb_oneO (ptc_neD hr (sh_S (patBy (cs.filter nzV))) (sh_S (patBy cs)) (pd_ck q67 (kwb67 T) rfl ⟨(F, true, cs), patIn_of g C, rfl, rfl, rfl⟩ hG (hr.mono (by decide)) (pks_cons (pd_tupL T.z_tuple (pd_l (pd_var 3))) (pks_cons (pd_var 1) pks_nil))) (pd_var 4)))) ?_) (fun z => by cases z) fun _ => ?_
    · rw [eqv_S, eqv_S, hmf, hcf, decide_eq_true rfl]
      rfl
    refine ss_setN 6 (T := Is [.bool true, .tuple [eS ((patBy cs).map posV), eS ((patBy cs).map fun v => posV (negV v))]]) (pn_lst (ps_cons (pd_eq (pd_c q65 ⟨(F, patBy cs), g, rfl, rfl, rfl⟩ hG (hr.mono (by decide)) (ps_cons (pd_var 1) (ps_cons (pd_var 4) ps_nil))) (by rw [hpv])) (ps_cons (pd_c q68 ⟨(F, patBy cs), ⟨g, hpv⟩, rfl, rfl, rfl⟩ hG (hr.mono (by decide)) (ps_cons (pd_var 1) (ps_cons (pd_var 4) ps_nil))) ps_nil)) rfl (by simp)) (fun ys hys => ?_) c95.nd
    cases hys
    have hneg : ((patBy cs).map fun v => posV (negV v)) = ((patBy cs).map negV).map posV := by rw [List.map_map]; rfl
    have hsh : Shw 60 4 (.list [.bool true, .tuple [eS ((patBy cs).map posV), eS ((patBy cs).map fun v => posV (negV v))]]) := by
      refine (shw_lst (n := 26) (k := 3) fun x hx => ?_).mono (by simp) (by omega)
      rcases List.mem_cons.mp hx with z | z
      · rw [z]; exact (shw_bool true).mono (by omega) (by omega)
      · rw [List.mem_singleton.mp z]
        refine (shw_tup (n := 12) (k := 2) fun y hy => ?_).mono (by simp) (by omega)
        rcases List.mem_cons.mp hy with q | q
        · rw [q]; exact posV_shw g CP
        · rw [List.mem_singleton.mp q, hneg]; exact posV_shw g CP.neg
    refine ss_ifr (b := false) (pt_eq (ptc_neT (pd_reprL T.z_repr hG hr hsh (by omega) (by omega) (pl_own 6)) (pd_reprL T.z_repr hG hr hsh (by omega) (by omega) (pn_l (pn_lst (xs := [.bool true, .tuple [eS ((patBy cs).map posV), eS ((patBy cs).map fun v => posV (negV v))]]) (ps_cons pd_bl (ps_cons (pd_c q88 ⟨patBy cs, trivial, rfl, rfl, rfl⟩ hG (hr.mono (by decide)) (ps_cons (pd_var 4) ps_nil)) ps_nil)) rfl (by simp))))) (by rw [decide_eq_true rfl]; rfl)) (fun z => by cases z) fun _ => ?_
    refine ss_set 7 (d := .p (eS (turn (patBy cs)))) (pd_tupL T.z_tuple (pn_l (pn_sortV (bs := (patBy cs).map negV) T.z_sorted hr (rows_neg (CP.rows g)) (pl_eq (pn_l (pn_c1 (f := fun v => eV (negV v)) (as := patBy cs) 8 c95.nd (src_tup (enc := eV) (pd_var 4)) fun v hv _ _ _ _ _ => pd_c q82 ⟨v, trivial, rfl, rfl, rfl⟩ hG (hr.mono (by decide)) (ps_cons (pd_var 8) ps_nil))) (by rw [List.map_map]; rfl))))) ?_ c95.nd
    have hpt : patVal F (turn (patBy cs)) = decide (turn (patBy cs) = patBy cs) := by
      rw [CP.turn.patVal, patBy_turn, hidem]
      by_cases h : turn (patBy cs) = patBy cs
      · rw [decide_eq_true h, decide_eq_true h.symm]
      · rw [decide_eq_false h, decide_eq_false fun z => h z.symm]
    refine ss_ret (pdp_eq (pd_eqT (pd_reprB T.z_repr (pd_c q65 ⟨(F, turn (patBy cs)), g, rfl, rfl, rfl⟩ hG (hr.mono (by decide)) (ps_cons (pd_var 1) (ps_cons (pd_var 7) ps_nil)))) (pd_reprB T.z_repr (pdp_eq (pd_eqD hr (sh_S (turn (patBy cs))) (sh_S (patBy cs)) (pd_var 7) (pd_var 4)) (by rw [eqv_S])))) ?_) fun d h => h
    show PyData.bool (decide ((if patVal F (turn (patBy cs)) = true then _ else _) = _)) = _
    rw [hpt, decide_eq_true rfl]
end
end K62
/-! plain: roads are judged alike -/
namespace K62
open PySem PySem.Spec PyProof.Rows L2
structure Gd (n l : Nat) (t : Stk) : Prop where
  len : t.length = l
  tab : ∀ v ∈ t, Tab n v
theorem Gd.shape {n l : Nat} {t : Stk} (h : Gd n l t) : Shape n t := ⟨fun v hv => (h.tab v hv).len, fun v hv => List.all_eq_true.mpr fun x hx => decide_eq_true ((h.tab v hv).ent x hx).1⟩
structure Fine (F : Frm) (b : List Stk) (d : PyData) : Prop where
  rdy : Rdy F b d
  eq : roadVal F b d = lawRoad (cellsN F) b d
theorem items_B (xs : List Stk) : itemsD (eB xs) = xs.map eS := rfl
theorem stks_B (xs : List Stk) : (itemsD (eB xs)).map stkOf = xs := by
  rw [items_B, List.map_map]
  have : (stkOf ∘ eS) = id := funext stkOf_eS
  rw [this, List.map_id]
theorem lay_of (t : Stk) : ∀ l ∈ itemsD (eS t), l.isTuple = true → ∃ v, l = eV v := fun l hl _ => by
  obtain ⟨v, _, rfl⟩ := List.mem_map.mp (show l ∈ t.map eV from hl)
  exact ⟨v, rfl⟩
theorem layShape_of {n : Nat} {v : Vec} (h : Tab n v) : layShape n (eV v) = true := by
  unfold layShape
  rw [vecOf_eV, show (itemsD (eV v)).length = n from (List.length_map _).trans h.len, decide_eq_true rfl, List.all_eq_true.mpr fun x hx => decide_eq_true (h.ent x hx).1]
  rfl
theorem stkShape_of {n l : Nat} {t : Stk} (h : ∀ v ∈ t, Tab n v) (hl : 1 ≤ t.length ∧ t.length ≤ 8) : stkShape n l (eS t) = decide (t.length = l) := by
  unfold stkShape
  have e : (itemsD (eS t)).length = t.length := List.length_map _
  rw [e, decide_eq_true hl.1, decide_eq_true hl.2, List.all_eq_true.mpr fun d hd => ?_]
  · show (true && ((true && true) && (decide (t.length = l) && true))) = _
    simp
  · obtain ⟨v, hv, rfl⟩ := List.mem_map.mp (show d ∈ t.map eV from hd)
    exact layShape_of (h v hv)
theorem consec_eq {F : Frm} {b : List Stk} {l : Nat} (B : Book F b) (xs : List Stk) (h : ∀ t ∈ xs, Gd (cellsN F) l t) : ((xs.zip (xs.drop 1)).all fun x => isStepB b x.1 x.2) = consec b xs := by
  have hp : ∀ p ∈ b, patBy p = p ∧ ∀ c ∈ p, c.length = cellsN F ∧ nzV c = true := fun p hp => ⟨(B.pat p hp).2, fun c hc => ⟨(B.pat p hp).1.row c hc, (B.pat p hp).1.nz c hc⟩⟩
  have hget : ∀ i, i < xs.length → xs.getD i [] ∈ xs := fun i hi => getD_mem hi
  have key : ∀ i, i < xs.length - 1 → isStepB b (xs.getD i []) (xs.getD (i + 1) []) = decide (xs.getD (i + 1) [] ∈ stepsB b (xs.getD i [])) := fun i hi => by
    have h1 := h _ (hget i (by omega))
    have h2 := h _ (hget (i + 1) (by omega))
    exact isStep_iff h1.shape h2.shape (by rw [h1.len, h2.len]) hp
  have hz : xs.zip (xs.drop 1) = (List.range (xs.length - 1)).map fun i => (xs.getD i [], xs.getD (i + 1) []) := by
    apply List.ext_getElem?
    intro i
    by_cases hi : i < xs.length - 1
    · rw [List.getElem?_map, List.getElem?_range hi, List.getElem?_eq_getElem (by rw [List.length_zip, List.length_drop]; omega), List.getElem_zip, List.getElem_drop]
      show some (xs[i], xs[1 + i]) = some (xs.getD i [], xs.getD (i + 1) [])
      rw [List.getD_eq_getElem?_getD, List.getD_eq_getElem?_getD, List.getElem?_eq_getElem (by omega), List.getElem?_eq_getElem (by omega)]
      show some (xs[i], xs[1 + i]) = some (xs[i], xs[i + 1])
      have : ∀ j (hj : j < xs.length), j = i + 1 → xs[j] = xs[i + 1] := fun j hj e => by subst e; rfl
      rw [this (1 + i) (by omega) (by omega)]
    · rw [List.getElem?_eq_none (by rw [List.length_zip, List.length_drop]; omega), List.getElem?_eq_none (by rw [List.length_map, List.length_range]; omega)]
  rw [hz, List.all_map]
  unfold consec
  apply Bool.eq_iff_iff.mpr
  rw [List.all_eq_true, List.all_eq_true]
  constructor
  · intro h i hi
    rw [← key i (List.mem_range.mp hi)]
    exact h i hi
  · intro h i hi
    have := h i hi
    rw [← key i (List.mem_range.mp hi)] at this
    exact this
theorem road_B {F : Frm} (g : GF F) {b : List Stk} {xs : List Stk} (hne : xs ≠ []) (hv : ∀ t ∈ xs, (1 ≤ t.length ∧ t.length ≤ 8) ∧ ∀ v ∈ t, Tab (cellsN F) v) : roadVal F b (eB xs) = (xs.zip (xs.drop 1)).all fun x => isStepB b x.1 x.2 := by
  unfold roadVal
  rw [stks_B, items_B, List.length_map, decide_eq_false (fun z => hne (List.length_eq_zero_iff.mp z)), List.all_eq_true.mpr fun d hd => ?_]
  · show (true && (true && (true && _))) = _
    simp
  · obtain ⟨t, ht, rfl⟩ := List.mem_map.mp hd
    exact stack_of g (hv t ht).1 (hv t ht).2
theorem fine_B {F : Frm} (g : GF F) {b : List Stk} (B : Book F b) {l : Nat} (hl : 2 ≤ l ∧ l ≤ 3) {xs : List Stk} (hne : xs ≠ []) (h : ∀ t ∈ xs, Gd (cellsN F) l t) (hf : xs.length ≤ 1001) : Fine F b (eB xs) ∧ lawRoad (cellsN F) b (eB xs) = consec b xs := by
  have hlaw : lawRoad (cellsN F) b (eB xs) = consec b xs := by
    unfold lawRoad
    rw [stks_B]
    have : shapeL (cellsN F) (eB xs) = true := by
      unfold shapeL
      obtain ⟨x, ys, rfl⟩ : ∃ x ys, xs = x :: ys := by
        cases xs with
        | nil => exact absurd rfl hne
        | cons x ys => exact ⟨x, ys, rfl⟩
      have e0 : (itemsD ((itemsD (eB (x :: ys))).headD .none)).length = l := (List.length_map _).trans (h x List.mem_cons_self).len
      rw [e0, List.all_eq_true.mpr fun d hd => ?_]
      · rw [items_B]
        simp
        rfl
      · obtain ⟨t, ht, rfl⟩ := List.mem_map.mp (show d ∈ (x :: ys).map eS from hd)
        have G := h t ht
        rw [stkShape_of G.tab (by rw [G.len]; omega)]
        exact decide_eq_true G.len
    rw [this, Bool.true_and]
  refine ⟨⟨⟨g, fun p hp => (B.pat p hp).2, fun x hx _ l hl hT => ?_, fun _ x hx => ?_, by rw [items_B, List.length_map]; exact hf⟩, ?_⟩, hlaw⟩
  · obtain ⟨t, _, rfl⟩ := List.mem_map.mp (show x ∈ xs.map eS from hx)
    exact lay_of t l hl hT
  · obtain ⟨t, ht, rfl⟩ := List.mem_map.mp (show x ∈ xs.map eS from hx)
    have G := h t ht
    exact ⟨t, rfl, stepC_of g B (by rw [G.len]; omega) G.shape.row⟩
  · rw [hlaw, road_B g hne fun t ht => ⟨by rw [(h t ht).len]; omega, (h t ht).tab⟩, consec_eq B xs h]
/-- what is no road at all -/
theorem fine_no {F : Frm} (g : GF F) {b : List Stk} (B : Book F b) {d : PyData} (h : shapeL (cellsN F) d = false) (hr : roadVal F b d = false) (hl : ∀ x ∈ itemsD d, x.isTuple = true → ∀ l ∈ itemsD x, l.isTuple = true → ∃ v, l = eV v) (hf : (itemsD d).length ≤ 1001) : Fine F b d :=
  ⟨⟨g, fun p hp => (B.pat p hp).2, hl, fun z => (by rw [h] at z; cases z), hf⟩, by unfold lawRoad; rw [hr, h, Bool.false_and]⟩
theorem fine_flat {F : Frm} (g : GF F) {b : List Stk} (B : Book F b) {d : PyData} (hd : itemsD d = []) : Fine F b d := by
  refine fine_no g B ?_ ?_ (fun x hx => by rw [hd] at hx; cases hx) (by rw [hd]; simp)
  · unfold shapeL
    rw [hd]
    simp
  · unfold roadVal
    rw [hd]
    simp
theorem fine_pair {F : Frm} (g : GF F) {b : List Stk} (B : Book F b) (s : Stk) : Fine F b (.tuple [eS s, .none]) := by
  refine fine_no g B ?_ ?_ (fun x hx hT l hl hlT => ?_) (by simp [itemsD])
  · unfold shapeL
    rw [show (itemsD (.tuple [eS s, .none])).all (stkShape (cellsN F) (itemsD ((itemsD (.tuple [eS s, .none])).headD .none)).length) = false from List.all_eq_false.mpr ⟨.none, by simp [itemsD], by simp [stkShape, PyData.isTuple]⟩]
    simp
  · unfold roadVal
    rw [show (itemsD (.tuple [eS s, .none])).all (stackVal F) = false from List.all_eq_false.mpr ⟨.none, by simp [itemsD], by simp [stackVal, PyData.isTuple]⟩]
    simp
  · have : x = eS s ∨ x = .none := by simpa [itemsD] using hx
    rcases this with z | z
    · rw [z] at hl
      exact lay_of s l hl hlT
    · rw [z] at hT
      cases hT
theorem fine_stack {F : Frm} (g : GF F) {b : List Stk} (B : Book F b) {l : Nat} (hl : 2 ≤ l ∧ l ≤ 3) {t : Stk} (h : Gd (cellsN F) l t) : Fine F b (eS t) := by
  obtain ⟨v, R, rfl⟩ : ∃ v R, t = v :: R := by
    cases t with
    | nil =>
      have := h.len
      simp at this
      omega
    | cons v R => exact ⟨v, R, rfl⟩
  have hv := h.tab v List.mem_cons_self
  have hc := g.cells
  obtain ⟨x, xs, rfl⟩ : ∃ x xs, v = x :: xs := by
    cases v with
    | nil =>
      have := hv.len
      simp at this
      omega
    | cons x xs => exact ⟨x, xs, rfl⟩
  refine fine_no g B ?_ ?_ (fun y hy hT l hl hlT => ?_) ?_
  · unfold shapeL
    rw [show (itemsD (eS ((x :: xs) :: R))).all (stkShape (cellsN F) (itemsD ((itemsD (eS ((x :: xs) :: R))).headD .none)).length) = false from List.all_eq_false.mpr ⟨eV (x :: xs), List.mem_map.mpr ⟨x :: xs, List.mem_cons_self, rfl⟩, by
      unfold stkShape
      rw [show (itemsD (eV (x :: xs))).all (layShape (cellsN F)) = false from List.all_eq_false.mpr ⟨.int x, List.mem_map.mpr ⟨x, List.mem_cons_self, rfl⟩, by simp [layShape, PyData.isTuple]⟩]
      simp⟩]
    simp
  · unfold roadVal
    rw [show (itemsD (eS ((x :: xs) :: R))).all (stackVal F) = false from List.all_eq_false.mpr ⟨eV (x :: xs), List.mem_map.mpr ⟨x :: xs, List.mem_cons_self, rfl⟩, by
      unfold stackVal
      rw [show (itemsD (eV (x :: xs))).all (tableOf F) = false from List.all_eq_false.mpr ⟨.int x, List.mem_map.mpr ⟨x, List.mem_cons_self, rfl⟩, by simp [tableOf, countsOf, PyData.isTuple]⟩]
      simp⟩]
    simp
  · obtain ⟨u, _, rfl⟩ := List.mem_map.mp (show y ∈ ((x :: xs) :: R).map eV from hy)
    obtain ⟨z, _, rfl⟩ := List.mem_map.mp (show l ∈ u.map .int from hl)
    cases hlT
  · have := h.len
    rw [show (itemsD (eS ((x :: xs) :: R))).length = ((x :: xs) :: R).length from List.length_map _]
    omega
theorem fine_cut {F : Frm} (g : GF F) {b : List Stk} (B : Book F b) {l : Nat} (hl : 2 ≤ l ∧ l ≤ 3) {s : Stk} {R : List Stk} (hs : Gd (cellsN F) l s) (hR : ∀ t ∈ R, Gd (cellsN F) l t) (hf : R.length ≤ 999) : Fine F b (eB (s.dropLast :: s :: R)) := by
  have hdl : s.dropLast.length = l - 1 := by rw [List.length_dropLast, hs.len]
  have hdt : ∀ v ∈ s.dropLast, Tab (cellsN F) v := fun v hv => hs.tab v (List.dropLast_subset s hv)
  refine fine_no g B ?_ ?_ (fun x hx _ l hl hT => ?_) (by rw [items_B, List.length_map]; simp; omega)
  · unfold shapeL
    have e0 : (itemsD ((itemsD (eB (s.dropLast :: s :: R))).headD .none)).length = l - 1 := (List.length_map _).trans hdl
    rw [e0, show (itemsD (eB (s.dropLast :: s :: R))).all (stkShape (cellsN F) (l - 1)) = false from List.all_eq_false.mpr ⟨eS s, by rw [items_B]; simp, by
      rw [stkShape_of hs.tab (by rw [hs.len]; omega), hs.len]
      simp
      omega⟩]
    simp
  · rw [road_B g (by simp) fun t ht => ?_]
    · refine List.all_eq_false.mpr ⟨(s.dropLast, s), by simp, ?_⟩
      unfold isStepB
      rw [decide_eq_false (show s.dropLast.length ≠ s.length by rw [hdl, hs.len]; omega)]
      simp
    · rcases List.mem_cons.mp ht with z | z
      · rw [z]; exact ⟨by rw [hdl]; omega, hdt⟩
      · rcases List.mem_cons.mp z with w | w
        · rw [w]; exact ⟨by rw [hs.len]; omega, hs.tab⟩
        · exact ⟨by rw [(hR t w).len]; omega, (hR t w).tab⟩
  · obtain ⟨t, _, rfl⟩ := List.mem_map.mp (show x ∈ (s.dropLast :: s :: R).map eS from hx)
    exact lay_of t l hl hT
/-! ### the road found -/
structure Road (b : List Stk) (ks : List Ent) (s : Stk) (e : Ent) : Prop where
  cons : ∃ R, roadL ks e.k = s :: R ∧ R.length = e.dep
  last : ∃ R, roadL ks e.k = R ++ [e.k]
  sub : ∀ t ∈ roadL ks e.k, t ∈ ks.map (·.k)
  few : e.dep + 1 ≤ ks.length
  con : consec b (roadL ks e.k) = true
theorem road_of {b : List Stk} {s : Stk} {ks : List Ent} (m : Met (stepsB b) s ks) (hr : (⟨s, none, 0⟩ : Ent) ∈ ks) {e : Ent} (he : e ∈ ks) : Road b ks s e := by
  have ee : entOf ks e.k = e := entOf_of m.nd he
  have hk : ∀ i, i ≤ e.dep → Chain (stepsB b) ks e i := chain_ok m he
  have hend : (chain ks e e.dep).k = s := (chain_end m hr he (Nat.le_refl _)).mpr rfl
  have eR : roadL ks e.k = ((List.range (e.dep + 1)).map fun j => (chain ks e j).k).reverse := by
    unfold roadL
    rw [ee]
  have hlen : (roadL ks e.k).length = e.dep + 1 := by rw [eR, List.length_reverse, List.length_map, List.length_range]
  have hget : ∀ i, i < e.dep + 1 → (roadL ks e.k).getD i [] = (chain ks e (e.dep - i)).k := fun i hi => by
    rw [List.getD_eq_getElem?_getD, List.getElem?_eq_getElem (by rw [hlen]; exact hi)]
    simp only [eR]
    rw [List.getElem_reverse, List.getElem_map, List.getElem_range]
    simp only [List.length_map, List.length_range]
    show (chain ks e (e.dep + 1 - 1 - i)).k = _
    have : e.dep + 1 - 1 - i = e.dep - i := by omega
    rw [this]
  refine ⟨⟨((List.range e.dep).map fun j => (chain ks e j).k).reverse, ?_, by rw [List.length_reverse, List.length_map, List.length_range]⟩, ⟨(((List.range e.dep).map (· + 1)).map fun j => (chain ks e j).k).reverse, ?_⟩, fun t ht => ?_, ?_, ?_⟩
  · rw [eR, List.range_succ, List.map_append, List.reverse_append, ← hend]
    rfl
  · rw [eR, List.range_succ_eq_map, List.map_cons, List.reverse_cons]
    rfl
  · rw [eR, List.mem_reverse] at ht
    obtain ⟨j, hj, rfl⟩ := List.mem_map.mp ht
    exact List.mem_map.mpr ⟨_, (hk j (by have := List.mem_range.mp hj; omega)).mem, rfl⟩
  · have h1 := nodup_len (l := (List.range (e.dep + 1)).map fun j => (chain ks e j).k) (m := ks.map (·.k)) (List.pairwise_map.mpr ?_) fun t ht => by
      obtain ⟨j, hj, rfl⟩ := List.mem_map.mp ht
      exact List.mem_map.mpr ⟨_, (hk j (by have := List.mem_range.mp hj; omega)).mem, rfl⟩
    · rw [List.length_map, List.length_map, List.length_range] at h1
      exact h1
    · refine List.Pairwise.imp_of_mem ?_ (List.nodup_range (n := e.dep + 1))
      intro i j hi hj hij z
      have h1 := hk i (by have := List.mem_range.mp hi; omega)
      have h2 := hk j (by have := List.mem_range.mp hj; omega)
      have := ent_one m.nd h1.mem h2.mem z
      have d1 := h1.dep
      have d2 := h2.dep
      rw [this] at d1
      have := List.mem_range.mp hi
      have := List.mem_range.mp hj
      omega
  · unfold consec
    refine List.all_eq_true.mpr fun i hi => ?_
    have hi := List.mem_range.mp hi
    rw [hlen] at hi
    refine decide_eq_true ?_
    rw [hget i (by omega), hget (i + 1) (by omega)]
    obtain ⟨_, _, h3⟩ := chain_next m (hk (e.dep - (i + 1)) (by omega)) (by omega)
    have : e.dep - (i + 1) + 1 = e.dep - i := by omega
    rw [this] at h3
    exact h3
end K62
/-! the law on roads -/
namespace K62
open PySem PySem.Spec PyProof.Rows L2
theorem eqv_TS (a b : List Stk) : PyData.eqv (.tuple (a.map eS)) (.tuple (b.map eS)) = decide (a = b) := by
  have := eqv_LS a b
  simpa [PyData.eqv] using this
theorem cut_last {α : Type} (xs : List α) : cutD xs none (some (-1 : Int)) = xs.dropLast := by
  have e : HT.sIx xs.length xs.length (some (-1 : Int)) = ((-1 : Int) + (xs.length : Int)).toNat := by
    unfold HT.sIx
    exact if_pos (by decide)
  unfold cutD
  rw [e, HT.sIx_none, List.drop_zero, List.dropLast_eq_take]
  congr 1
  omega
/-- the values judged -/
def judged (s : Stk) (R : List Stk) : List PyData := [eB R, .list (R.map eS), eB R.reverse, .tuple [], .none, eB (R ++ [s]), eB (s :: R), .tuple [eS s, .none], eS s, eB (s.dropLast :: R)]
theorem judged_fine {F : Frm} (g : GF F) {b : List Stk} (B : Book F b) {l : Nat} (hl : 2 ≤ l ∧ l ≤ 3) {s : Stk} {R : List Stk} (hs : Gd (cellsN F) l s) (hR : ∀ t ∈ R, Gd (cellsN F) l t) (h0 : ∃ R', R = s :: R') (hf : R.length ≤ 1000) : ∀ d ∈ judged s R, Fine F b d := by
  obtain ⟨R', rfl⟩ := h0
  rw [List.length_cons] at hf
  intro d hd
  unfold judged at hd
  simp only [List.mem_cons, List.not_mem_nil, or_false] at hd
  rcases hd with z | z | z | z | z | z | z | z | z | z <;> rw [z]
  · exact (fine_B g B hl (by simp) hR (by simp; omega)).1
  · exact fine_flat g B rfl
  · exact (fine_B g B hl (by simp) (fun t ht => hR t (List.mem_reverse.mp ht)) (by simp; omega)).1
  · exact fine_flat g B rfl
  · exact fine_flat g B rfl
  · refine (fine_B g B hl (by simp) (fun t ht => ?_) (by simp; omega)).1
    rcases List.mem_append.mp ht with w | w
    · exact hR t w
    · rw [List.mem_singleton.mp w]; exact hs
  · refine (fine_B g B hl (by simp) (fun t ht => ?_) (by simp; omega)).1
    rcases List.mem_cons.mp ht with w | w
    · rw [w]; exact hs
    · exact hR t w
  · exact fine_pair g B s
  · exact fine_stack g B hl hs
  · exact fine_cut g B hl hs (fun t ht => hR t (List.mem_cons_of_mem _ ht)) (by omega)
structure Start (F : Frm) (b : List Stk) (s : Stk) : Prop where
  g : GF F
  B : Book F b
  bv : bookVal F b = true
  len : 2 ≤ s.length ∧ s.length ≤ 3
  row : ∀ v ∈ s, Row1 (cellsN F) 0 1 v
theorem Start.gd {F : Frm} {b : List Stk} {s : Stk} (S : Start F b s) : Gd (cellsN F) s.length s := ⟨rfl, fun v hv => ⟨(S.row v hv).len, fun x hx => by have := (S.row v hv).ent x hx; omega⟩⟩
theorem Start.put {F : Frm} {b : List Stk} {s : Stk} (S : Start F b s) : Put F b s := ⟨S.g, S.bv, stack_of S.g (by have := S.len; omega) S.gd.tab⟩
theorem Start.reach {F : Frm} {b : List Stk} {s : Stk} (S : Start F b s) : Reach (cellsN F) b s := reach_of S.g S.B (by have := S.len; omega) S.row
theorem Start.met {F : Frm} {b : List Stk} {s : Stk} (S : Start F b s) (i : Nat) : ∀ t ∈ (grown (stepsB b) s i).map (·.k), Gd (cellsN F) s.length t := fun t ht => by
  obtain ⟨e, he, rfl⟩ := List.mem_map.mp ht
  have I := Inv0.all S.g S.B S.gd.shape i e he
  exact ⟨I.len, inv_stack S.g (by have := S.len; omega) S.row I⟩
section
variable {P : Program} {w : World} {K : PySem.W.Frag} {mg : Str → Option Value} {base : Heap}
abbrev φ96 : Ph := phD (fun i : Frm × List Stk × Stk => Start i.1 i.2.1 i.2.2) (fun i => [.pot, .p (eF i.1), .p (eB i.2.1), .p (eS i.2.2)]) (fun _ => IsB true)
def ok96 (T : Tx K mg) : Cal P w K mg base 10 "_law_roads_right" ["_law_pot_here", "_law_frame", "_law_patterns", "_law_stack_here"] φ96 :=
  let q93 := ok93 (P := P) (w := w) (base := base) T
  let q77 := ok77 (P := P) (w := w) (base := base) T
  let q76 := ok76 (P := P) (w := w) (base := base) T
  let q83 := ok83 (P := P) (w := w) (base := base) T
  let q72 := ok72 (P := P) (w := w) (base := base) T
  let q94 := ok94 (P := P) (w := w) (base := base) T
  let q73 := ok73 (P := P) (w := w) (base := base) T
  T.a96.cal fun F => fnG F c96 (fun ds Rd Rn h => by obtain ⟨d, _, rfl, _⟩ := h; rfl) fun cdv A outer st H hG hr ds Rd Rn h => by
    obtain ⟨⟨F, b, s⟩, S, rfl, rfl, rfl⟩ := h
    have S : Start F b s := S
    have g := S.g
    have B := S.B
    have hlen := S.len
    have hcan : Canon b := fun p hp => (B.pat p hp).2
    have R := S.reach
    obtain ⟨ks, eks⟩ : ∃ ks, ks = full (stepsB b) s := ⟨_, rfl⟩
    have M : Met (stepsB b) s ks := by rw [eks]; exact met_grown _ _ _
    have hroot : (⟨s, none, 0⟩ : Ent) ∈ ks := by rw [eks]; exact root_mem _ _ _
    have hks : ks.length ≤ 1000 := by rw [eks]; exact R.few 1001
    have hks0 : 0 < ks.length := List.length_pos_of_mem hroot
    have hgd : ∀ t ∈ ks.map (·.k), Gd (cellsN F) s.length t := by rw [eks]; exact S.met 1001
    refine ss_set 4 (d := .dic (ks.map kvD)) (pd_eq (pd_c q93 ⟨(b, s), ⟨hcan, _, R⟩, rfl, rfl, rfl⟩ hG (hr.mono (by decide)) (ps_cons (pd_var 2) (ps_cons (pd_var 3) ps_nil))) (by rw [eks])) ?_ c96.nd
    obtain ⟨so, eso⟩ : ∃ so, so = sortS (ks.map (·.k)) := ⟨_, rfl⟩
    have hsomem : ∀ t, t ∈ so ↔ t ∈ ks.map (·.k) := fun t => by rw [eso]; exact (List.mergeSort_perm _ _).mem_iff
    have hsol : so.length = ks.length := by rw [eso, (List.mergeSort_perm _ _).length_eq, List.length_map]
    refine ss_setS 5 (S := fun d => ∃ o, Gd (cellsN F) s.length o ∧ d = .p (eS o)) (pd_if (T := fun _ => True) (ptr_gt0 (pd_draw (k := 8) (n := 3) T q76 hG hr (by decide) (by decide) (pd_var 0) pd_int) pd_int) (fun _ => pd_imp (pd_c q77 ⟨so.map eS, (show 0 < (so.map eS).length ∧ (so.map eS).length < 1073741824 by rw [List.length_map, hsol]; omega), rfl, rfl, rfl⟩ hG (hr.mono (by decide)) (ps_cons (pd_var 0) (ps_cons (pn_d (pn_eq (pn_sortM (enc := eS) (bs := ks.map (·.k)) rfl hr (kvD_keys ks) (PySem.W.AllAlike.of alike_S) (sortableS fun t ht e => ?_) isNk_S (fun b _ => by have := depth_S b; omega) (by rw [List.length_map]; omega) rfl T.z_sorted (pm_d (pd_var 4))) (by rw [eso]))) ps_nil))) fun d hd => ?_) (fun _ => pd_imp (pd_c q83 ⟨(F, s.length, 3), ⟨g, (show s.length ≤ 1000 by omega), (show (0 : Int) < 3 by decide), (show (3 : Int) < 1000 by decide)⟩, rfl, rfl, rfl⟩ hG (hr.mono (by decide)) (ps_cons (pd_var 0) (ps_cons (pd_var 1) (ps_cons (pdp_eq (pd_lenT (xs := s.map eV) T.z_len (pd_var 3)) (by rw [List.length_map])) (ps_cons pd_int ps_nil))))) fun d hd => ?_)) (fun d hd => ?_) c96.nd
    · have := (hgd t ht).len
      rw [e] at this
      have : (0 : Nat) = s.length := this
      omega
    · obtain ⟨x, hx, rfl⟩ := hd
      obtain ⟨o, ho, rfl⟩ := List.mem_map.mp hx
      exact ⟨o, hgd o ((hsomem o).mp ho), rfl⟩
    · obtain ⟨o, ho, rfl⟩ := hd
      exact ⟨o, ⟨ho.len, fun v hv => ⟨(ho.row v hv).len, fun x hx => by have : 0 ≤ x ∧ x ≤ 3 - 1 := (ho.row v hv).ent x hx; omega⟩⟩, rfl⟩
    obtain ⟨o, ho, rfl⟩ := hd
    have hol : o.length = s.length := ho.len
    have hosv : stackVal F (eS o) = true := stack_of g (by rw [hol]; omega) ho.tab
    refine ss_set 6 (d := .p (roadP ks o)) (pd_eq (pd_c q72 ⟨(F, b, s, o), ⟨S.put, hosv, hol, _, R⟩, rfl, rfl, rfl⟩ hG hr (ps_cons (pd_var 1) (ps_cons (pd_var 2) (ps_cons (pd_var 3) (ps_cons (pd_var 5) ps_nil))))) (by rw [eks])) ?_ c96.nd
    have hkey : decide (o ∈ ks.map (·.k)) = true ↔ eS o ∈ (ks.map kvD).map (·.1) := by
      rw [kvD_keys, mem_eS]
      exact decide_eq_true_iff
    refine ss_ifr (ptc_notInM hr (keyD_S o) hkey (pd_var 5) (pm_d (pd_var 4))) (fun z => ?_) (fun z => ?_)
    · have z := of_decide_eq_false (nb z)
      refine ss_ret (pdp_eq (pd_isNone (pd_var 6)) ?_) fun d h => h
      unfold roadP
      rw [if_neg z]
      rfl
    have z := of_decide_eq_true (nb' z)
    obtain ⟨e, he, eo⟩ := List.mem_map.mp z
    subst eo
    have RD := road_of M hroot he
    obtain ⟨Rt, eRt, lRt⟩ := RD.cons
    obtain ⟨Ri, eRi⟩ := RD.last
    obtain ⟨rd, erd⟩ : ∃ rd, rd = roadL ks e.k := ⟨_, rfl⟩
    have hroadP : roadP ks e.k = eB rd := by
      unfold roadP
      rw [if_pos z, erd]
    rw [hroadP]
    rw [← erd] at eRt eRi
    have hrdl : rd.length = e.dep + 1 := by rw [eRt, List.length_cons, lRt]
    have hrdf : rd.length ≤ 1000 := by rw [hrdl]; have := RD.few; omega
    have hrdg : ∀ t ∈ rd, Gd (cellsN F) s.length t := fun t ht => hgd t (RD.sub t (by rw [← erd]; exact ht))
    have hrdne : rd ≠ [] := fun z => by rw [z] at eRt; cases eRt
    have FB := fine_B g B hlen hrdne hrdg (by omega)
    have hlawtrue : lawRoad (cellsN F) b (eB rd) = true := by rw [FB.2, erd]; exact RD.con
    have hat0 : atI (rd.map eS) 0 = some (eS s) := by rw [eRt]; exact at0
    have hatl : atI (rd.map eS) (-1) = some (eS e.k) := by rw [eRi, List.map_append]; exact atI_last _ _
    refine ss_ifr (b := false) (pt_eq (PW.pt (pwb_or1 (ptb_not1 (pt_b (pd_c q94 ⟨(F, b, eB rd), FB.1.rdy, rfl, rfl, rfl⟩ hG (hr.mono (by decide)) (ps_cons (pd_var 1) (ps_cons (pd_var 2) (ps_cons (pd_var 6) ps_nil)))))) fun _ => pwb_or1 (ptc_neD hr (sh_TS [s, e.k]) (sh_TS [s, e.k]) (pd_tup (xs := [eS s, eS e.k]) (ps_cons (pd_ixT (xs := rd.map eS) (pd_var 6) pd_int hat0) (ps_cons (pd_ixT (xs := rd.map eS) (pd_var 6) (pd_neg pd_int) hatl) ps_nil)) rfl (by simp)) (pd_tup (xs := [eS s, eS e.k]) (ps_cons (pd_var 3) (ps_cons (pd_var 5) ps_nil)) rfl (by simp))) fun _ => pwb_oneO (ptc_neI hr (i := ((e.dep + 1 : Nat) : Int)) (j := ((e.dep + 1 : Nat) : Int)) (pdp_eq (pd_lenT (xs := rd.map eS) T.z_len (pd_var 6)) (by rw [List.length_map, hrdl])) (pdp_eq (pd_add (i := ((e.dep : Nat) : Int)) (pd_ixM (kvs := ks.map kvD) (d := .int (e.dep : Nat)) hr (keyD_S e.k) (List.mem_map.mpr ⟨e, he, rfl⟩) (fun d' hd' => ?_) (pm_d (pd_var 4)) (pd_var 5)) pd_int) rfl)))) ?_) (fun z => by cases z) fun _ => ?_
    · obtain ⟨e2, he2, q⟩ := List.mem_map.mp hd'
      have q1 : eS e2.k = eS e.k := congrArg Prod.fst q
      have : e2 = e := ent_one M.nd he2 he (eS_inj q1)
      have q2 : (kvD e2).2 = d' := congrArg Prod.snd q
      rw [← q2, this]
      rfl
    · show (!lawRoad (cellsN F) b (eB rd) || _) = false
      rw [hlawtrue, eqv_TS, decide_eq_true rfl, decide_eq_true rfl]
      rfl
    refine ss_setN 7 (T := Is (judged s rd)) (pn_lst (xs := judged s rd) (ps_cons (pd_var 6) (ps_cons (pn_d (pn_Y cr_lstT rfl T.z_list bt_list (ps_cons (pd_var 6) ps_nil))) (ps_cons (pdp_eq (pd_revT (xs := rd.map eS) (pd_var 6)) (d' := eB rd.reverse) (by unfold eB; rw [List.map_reverse])) (ps_cons (pd_tup (xs := []) ps_nil) (ps_cons pd_non (ps_cons (pdp_eq (pd_catT (xs := rd.map eS) (ys := [eS s]) (pd_var 6) (pd_tup (xs := [eS s]) (ps_cons (pd_var 3) ps_nil) rfl (by simp)) (by rw [List.length_map]; simp; omega)) (d' := eB (rd ++ [s])) (by unfold eB; rw [List.map_append]; rfl)) (ps_cons (pdp_eq (pd_catT (pd_slT (xs := rd.map eS) (pd_var 6) pod_none (pod_some pd_int)) (ys := rd.map eS) (pd_var 6) ?_) (d' := eB (s :: rd)) ?_) (ps_cons (pd_tup (xs := [eS s, .none]) (ps_cons (pd_ixT (xs := rd.map eS) (pd_var 6) pd_int hat0) (ps_cons pd_non ps_nil)) rfl (by simp)) (ps_cons (pd_ixT (xs := rd.map eS) (pd_var 6) pd_int hat0) (ps_cons (pdp_eq (pd_catT (xs := [eS s.dropLast]) (ys := rd.map eS) (pd_tup (xs := [eS s.dropLast]) (ps_cons (pdp_eq (pd_slT (xs := s.map eV) (pd_var 3) pod_none (pod_some (pd_neg pd_int))) (d' := eS s.dropLast) (by rw [cut_last]; unfold eS; rw [List.map_dropLast])) ps_nil) rfl (by simp)) (pd_var 6) (by rw [List.length_map]; simp; omega)) (d' := eB (s.dropLast :: rd)) rfl) ps_nil)))))))))) rfl (by simp [judged])) (fun ys hys => ?_) c96.nd
    · rw [show cutD (rd.map eS) none (some (1 : Int)) = (rd.map eS).take 1 from cut_to (l := 1) (by rw [List.length_map]; omega), List.length_take, List.length_map]
      omega
    · rw [show cutD (rd.map eS) none (some (1 : Int)) = (rd.map eS).take 1 from cut_to (l := 1) (by rw [List.length_map]; omega)]
      unfold eB
      rw [eRt]
      rfl
    cases hys
    have hfine := judged_fine g B hlen S.gd hrdg ⟨Rt, eRt⟩ hrdf
    refine ss_freeze 7 ?_
    refine ss_for (as := (List.range (judged s rd).length).zip (judged s rd)) (I := fun i Γ => ∃ a b' c d, Γ = [.d .pot, .d (.p (eF F)), .d (.p (eB b)), .d (.p (eS s)), .d (.dic (ks.map kvD)), .d (.p (eS e.k)), .d (.p (eB rd)), .d (.p (.list (judged s rd))), a, b', c, d]) rfl PassesOwn.never (src_enumL (j := 8) (k := 9) (as := judged s rd) (enc := id) rfl T.z_enumerate (pdp_eq (pd_var 7) (by rw [List.map_id]))) (pg_tup rfl (pgs_cons (pg_name (i := 8) c96.nd rfl (.inl rfl)) (pgs_cons (pg_name (i := 9) c96.nd rfl (.inl rfl)) pgs_nil))) ⟨.any, .any, .any, .any, rfl⟩ (fun i p Γ' hp hI => ?_) (fun Γ' hI => ?_)
    · obtain ⟨o1, o2, o3, o4, rfl⟩ := hI
      obtain ⟨i', v⟩ := p
      have hv : v ∈ judged s rd := (List.of_mem_zip (List.mem_of_getElem? hp)).2
      have FV := hfine v hv
      refine ss_set 10 (pd_c q94 ⟨(F, b, v), FV.rdy, rfl, rfl, rfl⟩ hG (hr.mono (by decide)) (ps_cons (pd_var 1) (ps_cons (pd_var 2) (ps_cons (pd_var 9) ps_nil)))) ?_ c96.nd
      refine ss_if (T := fun _ => True) (C := fun Γ => Γ = [.d .pot, .d (.p (eF F)), .d (.p (eB b)), .d (.p (eS s)), .d (.dic (ks.map kvD)), .d (.p (eS e.k)), .d (.p (eB rd)), .d (.p (.list (judged s rd))), .d (.p (.int (i' : Nat))), .d (.p v), .d (.p (.bool (lawRoad (cellsN F) b v))), .d (.p (.bool (lawRoad (cellsN F) b v)))]) (pt_imp (ptc_eqI hr (pd_mod (by decide) (pd_var 8) pd_int) pd_int) fun _ _ => trivial) (fun _ => ?_) (fun _ => ?_) (fun Γ' hC => ?_)
      · refine ss_set 11 (pd_c q73 ⟨(F, b, v), ⟨g, S.bv⟩, rfl, rfl, rfl⟩ hG (hr.mono (by decide)) (ps_cons (pd_var 1) (ps_cons (pd_var 2) (ps_cons (pd_var 9) ps_nil)))) (ss_nil ?_) c96.nd
        show _ = [_, _, _, _, _, _, _, _, _, _, _, Sl.d (.p (.bool (lawRoad (cellsN F) b v)))]
        rw [← FV.eq]
        rfl
      · refine ss_set 11 (pd_ck q73 (kwb73 T) (es' := [.p v, .p (eB b), .p (eF F)]) rfl ⟨(F, b, v), ⟨g, S.bv⟩, rfl, rfl, rfl⟩ hG (hr.mono (by decide)) (pks_cons (pd_var 9) (pks_cons (pd_var 2) (pks_cons (pd_var 1) pks_nil)))) (ss_nil ?_) c96.nd
        show _ = [_, _, _, _, _, _, _, _, _, _, _, Sl.d (.p (.bool (lawRoad (cellsN F) b v)))]
        rw [← FV.eq]
        rfl
      · cases hC
        exact ss_ifr (b := false) (pt_eq (ptc_neT (pd_reprB T.z_repr (pd_var 11)) (pd_reprB T.z_repr (pd_var 10))) (by rw [decide_eq_true rfl]; rfl)) (fun z => by cases z) fun _ => ss_nil ⟨_, _, _, _, rfl⟩
    · obtain ⟨o1, o2, o3, o4, rfl⟩ := hI
      exact ss_ret pd_bl fun d h => h
end
end K62
/-! the law -/
namespace K62
open PySem PySem.Spec PyProof.Rows L2
section
variable {X : Cx} {e a b c tg iter : Expr} {es : List Expr} {rest body : List Stmt} {pos p1 : Pos} {Γ : List Sl} {κ : Pw} {ι : Type} {p : Po} {R : Int → Prop}
/-- range(n), n not told exactly -/
theorem ss_forR {j : Nat} {pr : Pos} (I : Nat → Nat → List Sl → Prop) (hc : X.calm = true) (hp : PassesOwn (model X.prog X.w) X.A X.env X.xe) (hg0 : Gl X "range") (hm : X.mg "range" = none) (hR : ∀ i, R i → 0 ≤ i ∧ i ≤ 1000) (h : PE X a (tD (pwOf X) Γ (IntP R))) (hg : PG X tg (gName j)) (h0 : ∀ n : Nat, R n → I n 0 Γ)
    (hb : ∀ n i Γ', R (n : Nat) → i < n → I n i Γ' → PSs X body (tS (pwOf X) (up1 j (fun k => .int (k : Nat)) i Γ') { p with nx := I n (i + 1) })) (hr : ∀ n Γ', R (n : Nat) → I n n Γ' → PSs X rest (tS (pwOf X) Γ' p))
    (hs1 : starEach [a] X.env = (false, eval a X.env) :: starEach [] X.env := by rfl) (hs2 : starEach [a] X.env = [(false, eval a X.env)] := by rfl) (hs : ∀ x, foldedSetIterable (.Call (.Name "range" p1) [a] [] pr) X.env x = pure x := by intro _; rfl) : PSs X (.For tg (.Call (.Name "range" p1) [a] [] pr) body [] pos :: rest) (tS (pwOf X) Γ p) := by
  have hb62 : ∀ n : Nat, n ≤ 1000 → (n : Int) < 2 ^ 62 := fun n hn => by
    have e : (2 : Int) ^ 62 = 4611686018427387904 := by decide
    rw [e]; omega
  have hb' : PSs X body (fun D σ H => ∃ n i Γ', R (n : Nat) ∧ i < n ∧ I n i Γ' ∧ tS (pwOf X) (up1 j (fun k => .int (k : Nat)) i Γ') { p with nx := I n (i + 1) } D σ H) := ⟨fun pins s σ H D J ⟨n, i, Γ', h1, h2, h3, q⟩ => (hb n i Γ' h1 h2 h3).run pins s σ H D J q⟩
  refine ss_then (C := fun Γ' => ∃ n : Nat, R n ∧ I n n Γ') (ps_for hp hc (pi_range1 hg0 hm (ps_consS (T' := fun ds => ∃ n : Nat, R n ∧ ds = [.p (.int n)]) h ps_nil (fun d ds ⟨i, hi, ed⟩ e => by
    subst ed
    cases e
    obtain ⟨n, rfl⟩ := Int.eq_ofNat_of_zero_le (hR i hi).1
    exact ⟨n, hi, rfl⟩) hs1) hs2) hg hb' hs) (fun Γ' ⟨n, h1, h2⟩ => hr n Γ' h1 h2) fun D σ H ⟨B0, H0, B, x0, E, q1, q2, q3⟩ => ?_
  refine ⟨H0, B, E, fun vs ds B1 H1 x1 ⟨n, hn, s⟩ r => ?_⟩
  subst s
  cases r with
  | cons r1 r2 =>
    cases r2
    cases rep_int r1
    have hn1 : n ≤ 1000 := by have := hR n hn; omega
    have x01 := x0.trans x1
    refine ⟨n, rfl, by omega, hb62 n hn1, ?_⟩
    refine ⟨fun i m σ' H' => m = n - i ∧ i ≤ n ∧ ∃ B' Γ', I n i Γ' ∧ Ext B1 H0 B' H' ∧ Env (pwOf X) H0 B' H' σ' Γ', ⟨n, rfl, Nat.zero_le _, B1, Γ, h0 n hn, x01.here, E.ext x1⟩, ?_⟩
    rintro i m σ' H' ⟨rfl, hi', B', Γ', hI, x2, E2⟩
    by_cases hlt : i < n
    · refine .inr ⟨by show i < ((n : Int)).toNat; omega, fun σ4 H4 => n - (i + 1) = n - (i + 1) ∧ i + 1 ≤ n ∧ ∃ B' Γ', I n (i + 1) Γ' ∧ Ext B1 H0 B' H4 ∧ Env (pwOf X) H0 B' H4 σ4 Γ', fun σ4 H4 h4 => ⟨n - (i + 1), by omega, h4⟩, fun v Hy y => ?_⟩
      have y1 : Hy = H' := y.1
      have y2 : v = .int (0 + i) := y.2
      subst y1
      have hv : Dp X.K B' v (.int (i : Nat)) := by
        rw [y2, Int.zero_add]
        exact Dp.int _
      exact ⟨n, i, Γ', hn, hlt, hI, B1, H0, B', x2, E2.setD hv, fun Γ4 σ4 B4 H4 hI4 x4 E4 => ⟨rfl, hlt, B4, Γ4, hI4, x4, E4⟩,
        fun v d B4 H4 x4 => q2 v d B4 H4 (x01.over x4), fun a vs ds B4 H4 x4 => q3 a vs ds B4 H4 (x01.over x4)⟩
    · have hie : i = n := by omega
      subst hie
      exact .inl ⟨by show ((i : Int)).toNat ≤ i; omega, q1 Γ' σ' B' H' ⟨i, hn, hI⟩ (x01.over x2) E2⟩
theorem ps_consI {d : Dd} {T : List Dd → Prop} (ha : PE X e (tD κ Γ (Is d))) (hr : PA X es (tA κ Γ T)) (hs : starEach (e :: es) X.env = (false, eval e X.env) :: starEach es X.env := by rfl) : PA X (e :: es) (tA κ Γ (fun ds => ∃ es, T es ∧ ds = d :: es)) :=
  ps_consS ha hr (fun _ ds h1 h2 => by cases h1; exact ⟨ds, h2, rfl⟩) hs
end
theorem book_of {F : Frm} {bs : List Stk} (hl : bs.length ≤ 2) (h : ∀ p ∈ bs, Chg F p ∧ patBy p = p) : Book F (setS bs) ∧ bookVal F (setS bs) = true := by
  have h1 : (setS bs).length ≤ 2 := Nat.le_trans (nodup_len (setS_nodup bs) fun t ht => setS_mem.mp ht) hl
  have h2 : ∀ p ∈ setS bs, Chg F p ∧ patBy p = p := fun p hp => h p (setS_mem.mp hp)
  refine ⟨⟨h1, h2⟩, ?_⟩
  unfold bookVal
  rw [decide_eq_true (show (setS bs).length ≤ 40 by omega), List.all_eq_true.mpr fun p hp => (by rw [(h2 p hp).1.patVal]; exact decide_eq_true (h2 p hp).2), Bool.true_and, Bool.true_and]
  refine List.all_eq_true.mpr fun x hx => ?_
  obtain ⟨i, hi, ex⟩ := List.getElem_of_mem hx
  rw [List.length_zip, List.length_drop] at hi
  rw [List.getElem_zip, List.getElem_drop] at ex
  have pw := List.pairwise_iff_getElem.mp (sort_pw eS bs.eraseDups) i (1 + i) (by show i < (setS bs).length; omega) (by show 1 + i < (setS bs).length; omega) (by omega)
  have nd := List.pairwise_iff_getElem.mp (setS_nodup bs) i (1 + i) (by omega) (by omega) (by omega)
  rw [← ex]
  show PySem.W.dataLt (eS (setS bs)[i]) (eS (setS bs)[1 + i]) = true
  have pw : leE eS (setS bs)[i] (setS bs)[1 + i] = true := pw
  rw [leE_def, Bool.not_eq_true'] at pw
  cases hz : PySem.W.dataLt (eS (setS bs)[i]) (eS (setS bs)[1 + i]) with
  | true => rfl
  | false => exact absurd (lt_anti hz pw) nd
theorem gd_shw {n l : Nat} (hn : n ≤ 3) (hl : l ≤ 3) {t : Stk} (h : Gd n l t) : Shw 12 2 (eS t) := shw_S (by rw [h.len]; exact hl) fun v hv => ⟨by rw [(h.tab v hv).len]; exact hn, fun x hx => by have := (h.tab v hv).ent x hx; omega⟩
section
variable {P : Program} {w : World} {K : PySem.W.Frag} {mg : Str → Option Value} {base : Heap}
abbrev φ97 : Ph := phD (fun _ : Unit => True) (fun _ => [.pot]) (fun _ => IsB true)
def ok97 (T : Tx K mg) : Cal P w K mg base 11 "_law_right" ["_law_pot_here"] φ97 :=
  let q78 := ok78 (P := P) (w := w) (base := base) T
  let q91 := ok91 (P := P) (w := w) (base := base) T
  let q70 := ok70 (P := P) (w := w) (base := base) T
  let q83 := ok83 (P := P) (w := w) (base := base) T
  let q95 := ok95 (P := P) (w := w) (base := base) T
  let q76 := ok76 (P := P) (w := w) (base := base) T
  let q84 := ok84 (P := P) (w := w) (base := base) T
  let q92 := ok92 (P := P) (w := w) (base := base) T
  let q66 := ok66 (P := P) (w := w) (base := base) T
  let q86 := ok86 (P := P) (w := w) (base := base) T
  let q71 := ok71 (P := P) (w := w) (base := base) T
  let q87 := ok87 (P := P) (w := w) (base := base) T
  let q96 := ok96 (P := P) (w := w) (base := base) T
  T.a97.cal fun F => fnG F c97 (fun ds Rd Rn h => by obtain ⟨d, _, rfl, _⟩ := h; rfl) fun cdv A outer st H hG hr ds Rd Rn h => by
    obtain ⟨_, _, rfl, rfl, rfl⟩ := h
    refine ss_setS 1 (pd_c q78 ⟨(), trivial, rfl, rfl, rfl⟩ hG (hr.mono (by decide)) (ps_cons (pd_var 0) ps_nil)) (fun d hd => ?_) c97.nd
    obtain ⟨F, g, rfl⟩ := hd
    have hcs := g.cells
    refine ss_par2 2 3 rfl (pv_n (pn_c q91 ⟨F, g, rfl, rfl, rfl⟩ hG (hr.mono (by decide)) (ps_cons (pd_var 1) ps_nil))) (pv_n (pn_lst (xs := []) ps_nil rfl (by simp))) (fun x y hx hy => ?_) c97.nd
    obtain ⟨xs, hxs, rfl⟩ := hx
    cases hxs
    obtain ⟨xs, hxs, rfl⟩ := hy
    cases hxs
    refine ss_freeze 2 (ss_ifr (b := decide (smallL F = [])) (pt_eq (ptc_eqD hr (sh_LV (smallL F)) (sh_LV []) (pd_var 2) (pn_d (pn_lst (xs := []) ps_nil rfl (by simp)))) (by rw [eqv_LV])) (fun z => ?_) fun z => ?_)
    · refine ss_ret (pdp_eq (pd_eqD hr (sh_LS []) (sh_LS []) (pn_d (pn_cX (T := fun ds => ∃ s, Drawn (cellsN F) 2 3 s ∧ ds = [.p (eF F), .p (eB []), .p (eS s)]) (S := Is (([] : List Stk).map eS)) q70 (fun ds ⟨s, hs, e⟩ => ?_) hG (hr.mono (by decide)) (ps_consS (pd_var 1) (ps_consS (T' := fun ds => ∃ s, Drawn (cellsN F) 2 3 s ∧ ds = [.p (eB []), .p (eS s)]) (pd_tup (xs := []) ps_nil) (ps_consS (T' := fun ds => ∃ s, Drawn (cellsN F) 2 3 s ∧ ds = [.p (eS s)]) (pd_c q83 ⟨(F, 2, 3), ⟨g, (show (2 : Nat) ≤ 1000 by decide), (show (0 : Int) < 3 by decide), (show (3 : Int) < 1000 by decide)⟩, rfl, rfl, rfl⟩ hG (hr.mono (by decide)) (ps_cons (pd_var 0) (ps_cons (pd_var 1) (ps_cons pd_int (ps_cons pd_int ps_nil))))) ps_nil fun d ds ⟨s, hs, e⟩ e2 => ?_) fun d ds e1 ⟨s, hs, e⟩ => ?_) fun d ds e1 ⟨s, hs, e⟩ => ?_))) (pn_d (pn_lst (xs := []) ps_nil rfl (by simp)))) ?_) fun d h => h
      · subst e
        have hsl : s.length = 2 := hs.len
        have B0 : Book F [] := ⟨by simp, fun p hp => by cases hp⟩
        refine ⟨Is ((stepsB [] s).map eS), ⟨(F, [], s), ⟨⟨g, rfl, stack_of (t := s) g (by omega) fun v hv => ⟨(hs.row v hv).len, fun x hx => by have : 0 ≤ x ∧ x ≤ 3 - 1 := (hs.row v hv).ent x hx; omega⟩⟩, _, stepC_of (s := s) g B0 (by omega) fun v hv => (hs.row v hv).len⟩, rfl, rfl, rfl⟩, fun d hd => ?_⟩
        cases hd
        show _ = _
        have : stepsB [] s = [] := by
          unfold stepsB pkgFound setS
          simp
        rw [this]
      · cases e2
        exact ⟨s, hs, by rw [e]⟩
      · cases e1
        exact ⟨s, hs, by rw [e]; rfl⟩
      · cases e1
        exact ⟨s, hs, by rw [e]⟩
      · show PyData.bool (PyData.eqv (.list (([] : List Stk).map eS)) (.list (([] : List Stk).map eS))) = _
        rw [eqv_LS]
        rfl
    have hL : smallL F ≠ [] := of_decide_eq_false z
    have hLl : 0 < (smallL F).length ∧ (smallL F).length < 1073741824 := by
      have := small_few F g
      have h0 : (smallL F).length ≠ 0 := fun z => hL (List.length_eq_zero_iff.mp z)
      omega
    refine ss_ifr (ptb_not1 (pt_b (pd_c q95 ⟨F, ⟨g, hL⟩, rfl, rfl, rfl⟩ hG (hr.mono (by decide)) (ps_cons (pd_var 0) (ps_cons (pd_var 1) (ps_cons (pd_var 2) ps_nil)))))) (fun z => by cases z) fun _ => ?_
    refine ss_forR (R := fun i => 1 ≤ i ∧ i ≤ 2) (j := 4) (I := fun n i Γ => ∃ bs o, bs.length = i ∧ (∀ p ∈ bs, Chg F p ∧ patBy p = p) ∧ Γ = [.d .pot, .d (.p (eF F)), .d (.p (.list ((smallL F).map eV))), .own (bs.map eS), o, .any, .any, .any, .any, .any]) rfl PassesOwn.never rfl T.z_range (fun i h => by have h : 1 ≤ i ∧ i ≤ 2 := h; omega) (pdr_add (R := Is 1) (R' := fun r => 0 ≤ r ∧ r < 2) (S := fun i => 1 ≤ i ∧ i ≤ 2) (fun i j hi hj => by cases hi; omega) (pdr_is pd_int rfl) (pd_draw (k := 9) (n := 2) T q76 hG hr (by decide) (by decide) (pd_var 0) pd_int)) (pg_name (i := 4) c97.nd rfl (.inl rfl)) (fun n hn => ⟨[], .any, rfl, fun p hp => (by cases hp), rfl⟩) (fun n i Γ' hn hi hI => ?_) (fun n Γ' hn hI => ?_)
    · obtain ⟨bs, o, hbl, hb, rfl⟩ := hI
      refine ss_append 3 (xs := bs.map eS) (T := fun y => ∃ p, (Chg F p ∧ patBy p = p) ∧ y = eS p) (pd_cX (T := fun ds => ∃ cs, DrawnP (smallL F) cs ∧ ds = [.p (.list (cs.map eV))]) q84 (fun ds ⟨cs, hd, e⟩ => ?_) hG (hr.mono (by decide)) (ps_consS (pn_s (pn_c q92 ⟨smallL F, hLl, rfl, rfl, rfl⟩ hG (hr.mono (by decide)) (ps_cons (pd_var 0) (ps_cons (pd_var 2) ps_nil)))) ps_nil fun d ds ⟨xs, ⟨cs, h, e⟩, e2⟩ e3 => ?_)) (by rw [List.length_map]; omega) (fun y hy => ?_)
      · subst e
        have C := drawn_chg hd
        refine ⟨IsP (eS (patL cs)), ⟨cs, C.rows g, rfl, rfl, rfl⟩, fun d hd => ?_⟩
        cases hd
        refine ⟨eS (patBy cs), ⟨patBy cs, ⟨C.pat, patBy_idem cs⟩, rfl⟩, by rw [patL_eq]⟩
      · cases e3
        exact ⟨cs, h, by rw [e2, e]⟩
      · obtain ⟨p, hp, rfl⟩ := hy
        refine ss_nil ⟨bs ++ [p], _, by rw [List.length_append, hbl]; rfl, fun q hq => ?_, by rw [List.map_append]; rfl⟩
        rcases List.mem_append.mp hq with w | w
        · exact hb q w
        · rw [List.mem_singleton.mp w]; exact hp
    obtain ⟨bs, o, hbl, hb, rfl⟩ := hI
    have hn2 : bs.length ≤ 2 := by omega
    obtain ⟨b, eb⟩ : ∃ b, b = setS bs := ⟨_, rfl⟩
    obtain ⟨B, BV⟩ : Book F b ∧ bookVal F b = true := by rw [eb]; exact book_of hn2 hb
    refine ss_set 5 (d := .p (eB b)) (pdp_eq (pd_tupL T.z_tuple (pn_l (pn_setSort T.z_sorted T.z_set hr (as := bs) (by omega) (fun p hp e => ?_) (pl_own 3)))) (by rw [eb]; rfl)) ?_ c97.nd
    · have := (hb p hp).1.len
      rw [e] at this
      have : 2 ≤ 0 := this.1
      omega
    refine ss_setS 6 (S := fun d => ∃ s, (2 ≤ s.length ∧ s.length ≤ 3) ∧ (∀ v ∈ s, Row1 (cellsN F) 0 1 v) ∧ d = .p (eS s)) (pd_cX (T := fun ds => ∃ l : Nat, (2 ≤ l ∧ l ≤ 3) ∧ ds = [.pot, .p (eF F), .p (.int l), .p (.int 2)]) q83 (fun ds ⟨l, hl, e⟩ => ?_) hG (hr.mono (by decide)) (ps_consS (pd_var 0) (ps_consS (T' := fun ds => ∃ l : Nat, (2 ≤ l ∧ l ≤ 3) ∧ ds = [.p (eF F), .p (.int l), .p (.int 2)]) (pd_var 1) (ps_consS (T' := fun ds => ∃ l : Nat, (2 ≤ l ∧ l ≤ 3) ∧ ds = [.p (.int l), .p (.int 2)]) (pdr_add (R := Is 2) (R' := fun r => 0 ≤ r ∧ r < 2) (S := fun r => 2 ≤ r ∧ r ≤ 3) (fun i j hi hj => by cases hi; omega) (pdr_is pd_int rfl) (pd_draw (k := 9) (n := 2) T q76 hG hr (by decide) (by decide) (pd_var 0) pd_int)) (ps_cons pd_int ps_nil) fun d ds ⟨i, hi, e⟩ e2 => ?_) fun d ds e1 ⟨l, hl, e⟩ => ?_) fun d ds e1 ⟨l, hl, e⟩ => ?_)) (fun d hd => ?_) c97.nd
    · subst e
      refine ⟨_, ⟨(F, l, 2), ⟨g, (show l ≤ 1000 by omega), (show (0 : Int) < 2 by decide), (show (2 : Int) < 1000 by decide)⟩, rfl, rfl, rfl⟩, fun d ⟨s, hs, e⟩ => ?_⟩
      have hsl : s.length = l := hs.len
      exact ⟨s, by omega, fun v hv => ⟨(hs.row v hv).len, fun x hx => by have : 0 ≤ x ∧ x ≤ 2 - 1 := (hs.row v hv).ent x hx; omega⟩, e⟩
    · cases e2
      obtain ⟨l, rfl⟩ := Int.eq_ofNat_of_zero_le (show 0 ≤ i by omega)
      exact ⟨l, by omega, by rw [e]⟩
    · cases e1
      exact ⟨l, hl, by rw [e]⟩
    · cases e1
      exact ⟨l, hl, by rw [e]⟩
    obtain ⟨s, hsl, hsr, rfl⟩ := hd
    have S : Start F b s := ⟨g, B, BV, hsl, hsr⟩
    have R := S.reach
    have hcan : Canon b := fun p hp => (B.pat p hp).2
    have hshow : Shw 26002 4 (.list [eB b, eS s]) := by
      refine (shw_lst (n := 13000) (k := 3) fun x hx => ?_).mono (by simp) (by omega)
      rcases List.mem_cons.mp hx with z | z
      · rw [z]
        exact shw_B (by have := B.few; omega) fun p hp => chg_shw g (B.pat p hp).1
      · rw [List.mem_singleton.mp z]
        exact (gd_shw hcs.2 hsl.2 S.gd).mono (by omega) (by omega)
    have hsteps : Shw 13000 3 (.list ((stepsB b s).map eS)) := by
      refine shw_LS (by have := steps_few R.step; omega) fun t ht => ?_
      have I := (Inv0.self S.gd.shape).step g B ht
      exact gd_shw hcs.2 hsl.2 ⟨I.len, inv_stack g (by omega) hsr I⟩
    have hclosed : Shw 13000 3 (.list ((sortS ((full (stepsB b) s).map (·.k))).map eS)) := by
      refine shw_LS (by rw [(List.mergeSort_perm _ _).length_eq, List.length_map]; exact R.few 1001) fun t ht => ?_
      exact gd_shw hcs.2 hsl.2 (S.met 1001 t ((List.mergeSort_perm _ _).mem_iff.mp ht))
    refine ss_ifr (b := false) (pt_eq (ptc_notTrue (pd_c q66 ⟨(F, b), g, rfl, rfl, rfl⟩ hG (hr.mono (by decide)) (ps_cons (pd_var 1) (ps_cons (pd_var 5) ps_nil))) pd_bl) (by show (!decide (bookVal F b = true)) = false; rw [decide_eq_true BV]; rfl)) (fun z => by cases z) fun _ => ?_
    refine ss_par2 7 8 rfl (pv_d (pd_reprL T.z_repr hG hr hshow (by omega) (by omega) (pn_l (pn_lst (xs := [eB b, eS s]) (ps_cons (pd_var 5) (ps_cons (pd_var 6) ps_nil)) rfl (by simp))))) (pv_n (pn_eq (pn_c q86 ⟨(b, s), ⟨_, R.step⟩, rfl, rfl, rfl⟩ hG (hr.mono (by decide)) (ps_cons (pd_var 5) (ps_cons (pd_var 6) ps_nil))) (by rw [lawSteps_eq hcan]))) (fun x y hx hy => ?_) c97.nd
    obtain ⟨d, hd, rfl⟩ := hx
    cases hd
    obtain ⟨xs, hxs, rfl⟩ := hy
    cases hxs
    refine ss_freeze 8 (ss_setN 9 (pn_c q70 ⟨(F, b, s), ⟨S.put, _, R.step⟩, rfl, rfl, rfl⟩ hG (hr.mono (by decide)) (ps_cons (pd_var 1) (ps_cons (pd_var 5) (ps_cons (pd_var 6) ps_nil)))) (fun ys hys => ?_) c97.nd)
    cases hys
    refine ss_ifr (b := false) (pt_eq (ptc_neT (pd_reprL T.z_repr hG hr hsteps (by omega) (by omega) (pl_own 9)) (pd_reprL T.z_repr hG hr hsteps (by omega) (by omega) (pd_l (pd_var 8)))) (by rw [decide_eq_true rfl]; rfl)) (fun z => by cases z) fun _ => ?_
    refine ss_append 9 (xs := (stepsB b s).map eS) (T := Is .none) (pd_imp pd_non fun d hd => ⟨_, rfl, hd⟩) (by rw [List.length_map]; have := steps_few R.step; omega) (fun y hy => ?_)
    cases hy
    refine ss_if (T := fun _ => True) (C := fun Γ => Γ = [.d .pot, .d (.p (eF F)), .d (.p (.list ((smallL F).map eV))), .own (bs.map eS), o, .d (.p (eB b)), .d (.p (eS s)), .d (.p (.str (PyData.list [eB b, eS s]).shown)), .d (.p (.list ((stepsB b s).map eS))), .own ((stepsB b s).map eS ++ [.none])]) (ptc_eqIS hr (pd_draw (k := 9) (n := 2) T q76 hG hr (by decide) (by decide) (pd_var 0) pd_int) pd_int) (fun _ => ?_) (fun _ => ?_) (fun Γ' hC => ?_)
    · exact ss_ifr (b := false) (pt_eq (ptc_neT (pd_reprL T.z_repr hG hr hclosed (by omega) (by omega) (pn_l (pn_ck q71 (kwb71 T) (es' := [.p (eS s), .p (eB b), .p (eF F)]) rfl ⟨(F, b, s), ⟨S.put, _, R⟩, rfl, rfl, rfl⟩ hG (hr.mono (by decide)) (pks_cons (pd_var 6) (pks_cons (pd_var 5) (pks_cons (pd_var 1) pks_nil)))))) (pd_reprL T.z_repr hG hr hclosed (by omega) (by omega) (pn_l (pn_c q87 ⟨(b, s), ⟨hcan, _, R⟩, rfl, rfl, rfl⟩ hG (hr.mono (by decide)) (ps_cons (pd_var 5) (ps_cons (pd_var 6) ps_nil)))))) (by rw [decide_eq_true rfl]; rfl)) (fun z => by cases z) fun _ => ss_nil rfl
    · exact ss_ifr (b := false) (ptb_not1 (pt_b (pd_c q96 ⟨(F, b, s), S, rfl, rfl, rfl⟩ hG (hr.mono (by decide)) (ps_cons (pd_var 0) (ps_cons (pd_var 1) (ps_cons (pd_var 5) (ps_cons (pd_var 6) ps_nil))))))) (fun z => by cases z) fun _ => ss_nil rfl
    · cases hC
      refine ss_ret (pdp_eq (pd_and (pd_eqT (pd_reprL T.z_repr hG hr hsteps (by omega) (by omega) (pn_l (pn_ck q70 (kwb70 T) (es' := [.p (eS s), .p (eB b), .p (eF F)]) rfl ⟨(F, b, s), ⟨S.put, _, R.step⟩, rfl, rfl, rfl⟩ hG (hr.mono (by decide)) (pks_cons (pd_var 6) (pks_cons (pd_var 5) (pks_cons (pd_var 1) pks_nil)))))) (pd_reprL T.z_repr hG hr hsteps (by omega) (by omega) (pd_l (pd_var 8)))) fun _ => pd_one (pd_eqT (pd_reprL T.z_repr hG hr hshow (by omega) (by omega) (pn_l (pn_lst (xs := [eB b, eS s]) (ps_cons (pd_var 5) (ps_cons (pd_var 6) ps_nil)) rfl (by simp)))) (pd_var 7))) ?_) fun d h => h
      rw [decide_eq_true rfl, decide_eq_true rfl]
      rfl
abbrev φ98 : Ph := phD (fun ns : List Int => True) (fun ns => [.p (.list (ns.map .int))]) (fun _ => IsB true)
def ok98 (T : Tx K mg) : Cal P w K mg base 12 "law" ["_law_script"] φ98 :=
  let q75 := ok75 (P := P) (w := w) (base := base) T
  let q97 := ok97 (P := P) (w := w) (base := base) T
  T.a98.cal fun F => fnG F c98 (fun ds Rd Rn h => by obtain ⟨d, _, rfl, _⟩ := h; rfl) fun cdv A outer st H hG hr ds Rd Rn h => by
    obtain ⟨ns, _, rfl, rfl, rfl⟩ := h
    exact ss_ret (pd_c q97 ⟨(), trivial, rfl, rfl, rfl⟩ hG hr (ps_cons (pd_c q75 ⟨ns, trivial, rfl, rfl, rfl⟩ hG (hr.mono (by decide)) (ps_cons (pd_var 0) (ps_cons pd_int ps_nil))) ps_nil)) fun d h => h
end
end K62
/-! the world, filled -/
namespace K62
open PySem PySem.Spec PyProof.Rows L2
def fnAt_mk {K : PySem.W.Frag} {h : Heap} {mg : Str → Option Value} {x : Str} {st : Stmt} {ps : List Str} {f : Addr} {od an : Option Addr} {sl : Array (Option Value)} {oc kV dc pm cd ct : Value} (X : K.In h) (G : h.Ns mainGlobals mg)
    (b : ∀ (kV doc pm : Value) (an : Option Addr) (cdv ct : Value) (us : List Value), us.length = ps.length → bindArgs (PySem.W.fnOf x x (defArgs st) (defBody st) (defScope st) .none kV doc pm an cdv ct) ⟨us, []⟩ = pure (ps.zip us))
    (a : PySem.W.nsIn K mainGlobals x = some (some (.ref f))) (l : K.lookup f = some ⟨oc, od, .func (PySem.W.fnOf x x (defArgs st) (defBody st) (defScope st) .none kV dc pm an cd ct), sl⟩) (c : PySem.W.codeIn K cd x = true) (k : PySem.W.keepIn K (.ref f) = true) : FnAt K mg x st ps :=
  ⟨f, _, fun_mk l c k, PySem.W.mg_of X G a, (fun_mk l c k).binds b⟩
theorem law_binds {K : PySem.W.Frag} {f : Addr} {fd : FuncData} (F : Fun K "law" "law" s98 f fd) : ∀ (s : Shared) (u : Value), BindsTo s fd ⟨[u], []⟩ [("_law_script", u)] := by
  obtain ⟨oc, od, kV, doc, pm, an, cdv, ct, osl, rfl, lk, hcd⟩ := F.ex
  exact fun s u => .of_eq rfl
/-- what k_head asks of the law -/
theorem law_fin {P : Program} {w : World} {K : PySem.W.Frag} {mg : Str → Option Value} {fa : Addr} (T : Tx K mg) (hmg : mg "law" = some (.ref fa)) : ∃ fd : FuncData, (∀ (s : Shared) (u : Value), BindsTo s fd ⟨[u], []⟩ [("_law_script", u)]) ∧ ∀ base : Heap, K.In base → base.Ns mainGlobals mg → FnG P w K mg base 12 fa fd ["_law_script"] (spG ⟨P, w, K⟩ φ98) := by
  have e := hmg.symm.trans T.a98.m
  cases e
  exact ⟨T.a98.fd, law_binds T.a98.F, fun base _ _ => (ok98 (P := P) (w := w) (base := base) T).F⟩
theorem b10 : ∀ (kV doc pm : Value) (an : Option Addr) (cdv ct : Value) (us : List Value), us.length = (["value"] : List Str).length → bindArgs (PySem.W.fnOf "is_integer" "is_integer" (defArgs s10) (defBody s10) (defScope s10) .none kV doc pm an cdv ct) ⟨us, []⟩ = pure ((["value"] : List Str).zip us) := fun _ _ _ _ _ _ us hl => match us, hl with | [_], _ => rfl
theorem b11 : ∀ (kV doc pm : Value) (an : Option Addr) (cdv ct : Value) (us : List Value), us.length = (["value"] : List Str).length → bindArgs (PySem.W.fnOf "is_count" "is_count" (defArgs s11) (defBody s11) (defScope s11) .none kV doc pm an cdv ct) ⟨us, []⟩ = pure ((["value"] : List Str).zip us) := fun _ _ _ _ _ _ us hl => match us, hl with | [_], _ => rfl
theorem b12 : ∀ (kV doc pm : Value) (an : Option Addr) (cdv ct : Value) (us : List Value), us.length = (["value"] : List Str).length → bindArgs (PySem.W.fnOf "is_list" "is_list" (defArgs s12) (defBody s12) (defScope s12) .none kV doc pm an cdv ct) ⟨us, []⟩ = pure ((["value"] : List Str).zip us) := fun _ _ _ _ _ _ us hl => match us, hl with | [_], _ => rfl
theorem b13 : ∀ (kV doc pm : Value) (an : Option Addr) (cdv ct : Value) (us : List Value), us.length = (["what", "limit", "number"] : List Str).length → bindArgs (PySem.W.fnOf "want_at_most" "want_at_most" (defArgs s13) (defBody s13) (defScope s13) .none kV doc pm an cdv ct) ⟨us, []⟩ = pure ((["what", "limit", "number"] : List Str).zip us) := fun _ _ _ _ _ _ us hl => match us, hl with | [_, _, _], _ => rfl
theorem b15 : ∀ (kV doc pm : Value) (an : Option Addr) (cdv ct : Value) (us : List Value), us.length = (["one", "other"] : List Str).length → bindArgs (PySem.W.fnOf "product_of" "product_of" (defArgs s15) (defBody s15) (defScope s15) .none kV doc pm an cdv ct) ⟨us, []⟩ = pure ((["one", "other"] : List Str).zip us) := fun _ _ _ _ _ _ us hl => match us, hl with | [_, _], _ => rfl
theorem b16 : ∀ (kV doc pm : Value) (an : Option Addr) (cdv ct : Value) (us : List Value), us.length = (["row"] : List Str).length → bindArgs (PySem.W.fnOf "head_of" "head_of" (defArgs s16) (defBody s16) (defScope s16) .none kV doc pm an cdv ct) ⟨us, []⟩ = pure ((["row"] : List Str).zip us) := fun _ _ _ _ _ _ us hl => match us, hl with | [_], _ => rfl
theorem b17 : ∀ (kV doc pm : Value) (an : Option Addr) (cdv ct : Value) (us : List Value), us.length = (["row"] : List Str).length → bindArgs (PySem.W.fnOf "is_noughts" "is_noughts" (defArgs s17) (defBody s17) (defScope s17) .none kV doc pm an cdv ct) ⟨us, []⟩ = pure ((["row"] : List Str).zip us) := fun _ _ _ _ _ _ us hl => match us, hl with | [_], _ => rfl
theorem b18 : ∀ (kV doc pm : Value) (an : Option Addr) (cdv ct : Value) (us : List Value), us.length = (["value", "many"] : List Str).length → bindArgs (PySem.W.fnOf "is_integer_row" "is_integer_row" (defArgs s18) (defBody s18) (defScope s18) .none kV doc pm an cdv ct) ⟨us, []⟩ = pure ((["value", "many"] : List Str).zip us) := fun _ _ _ _ _ _ us hl => match us, hl with | [_, _], _ => rfl
theorem b23 : ∀ (kV doc pm : Value) (an : Option Addr) (cdv ct : Value) (us : List Value), us.length = (["frame"] : List Str).length → bindArgs (PySem.W.fnOf "rows_of" "rows_of" (defArgs s23) (defBody s23) (defScope s23) .none kV doc pm an cdv ct) ⟨us, []⟩ = pure ((["frame"] : List Str).zip us) := fun _ _ _ _ _ _ us hl => match us, hl with | [_], _ => rfl
theorem b24 : ∀ (kV doc pm : Value) (an : Option Addr) (cdv ct : Value) (us : List Value), us.length = (["frame"] : List Str).length → bindArgs (PySem.W.fnOf "cells_of" "cells_of" (defArgs s24) (defBody s24) (defScope s24) .none kV doc pm an cdv ct) ⟨us, []⟩ = pure ((["frame"] : List Str).zip us) := fun _ _ _ _ _ _ us hl => match us, hl with | [_], _ => rfl
theorem b25 : ∀ (kV doc pm : Value) (an : Option Addr) (cdv ct : Value) (us : List Value), us.length = (["frame", "table"] : List Str).length → bindArgs (PySem.W.fnOf "sums_by" "sums_by" (defArgs s25) (defBody s25) (defScope s25) .none kV doc pm an cdv ct) ⟨us, []⟩ = pure ((["frame", "table"] : List Str).zip us) := fun _ _ _ _ _ _ us hl => match us, hl with | [_, _], _ => rfl
theorem b26 : ∀ (kV doc pm : Value) (an : Option Addr) (cdv ct : Value) (us : List Value), us.length = (["value", "many"] : List Str).length → bindArgs (PySem.W.fnOf "is_frame_row" "is_frame_row" (defArgs s26) (defBody s26) (defScope s26) .none kV doc pm an cdv ct) ⟨us, []⟩ = pure ((["value", "many"] : List Str).zip us) := fun _ _ _ _ _ _ us hl => match us, hl with | [_, _], _ => rfl
theorem b27 : ∀ (kV doc pm : Value) (an : Option Addr) (cdv ct : Value) (us : List Value), us.length = (["value"] : List Str).length → bindArgs (PySem.W.fnOf "is_frame" "is_frame" (defArgs s27) (defBody s27) (defScope s27) .none kV doc pm an cdv ct) ⟨us, []⟩ = pure ((["value"] : List Str).zip us) := fun _ _ _ _ _ _ us hl => match us, hl with | [_], _ => rfl
theorem b28 : ∀ (kV doc pm : Value) (an : Option Addr) (cdv ct : Value) (us : List Value), us.length = (["value"] : List Str).length → bindArgs (PySem.W.fnOf "want_frame" "want_frame" (defArgs s28) (defBody s28) (defScope s28) .none kV doc pm an cdv ct) ⟨us, []⟩ = pure ((["value"] : List Str).zip us) := fun _ _ _ _ _ _ us hl => match us, hl with | [_], _ => rfl
theorem b29 : ∀ (kV doc pm : Value) (an : Option Addr) (cdv ct : Value) (us : List Value), us.length = (["frame", "value"] : List Str).length → bindArgs (PySem.W.fnOf "is_change_of" "is_change_of" (defArgs s29) (defBody s29) (defScope s29) .none kV doc pm an cdv ct) ⟨us, []⟩ = pure ((["frame", "value"] : List Str).zip us) := fun _ _ _ _ _ _ us hl => match us, hl with | [_, _], _ => rfl
theorem b32 : ∀ (kV doc pm : Value) (an : Option Addr) (cdv ct : Value) (us : List Value), us.length = (["many", "value"] : List Str).length → bindArgs (PySem.W.fnOf "is_counts_of" "is_counts_of" (defArgs s32) (defBody s32) (defScope s32) .none kV doc pm an cdv ct) ⟨us, []⟩ = pure ((["many", "value"] : List Str).zip us) := fun _ _ _ _ _ _ us hl => match us, hl with | [_, _], _ => rfl
theorem b33 : ∀ (kV doc pm : Value) (an : Option Addr) (cdv ct : Value) (us : List Value), us.length = (["frame", "value"] : List Str).length → bindArgs (PySem.W.fnOf "are_sums" "are_sums" (defArgs s33) (defBody s33) (defScope s33) .none kV doc pm an cdv ct) ⟨us, []⟩ = pure ((["frame", "value"] : List Str).zip us) := fun _ _ _ _ _ _ us hl => match us, hl with | [_, _], _ => rfl
theorem b34 : ∀ (kV doc pm : Value) (an : Option Addr) (cdv ct : Value) (us : List Value), us.length = (["frame", "value"] : List Str).length → bindArgs (PySem.W.fnOf "is_table_of" "is_table_of" (defArgs s34) (defBody s34) (defScope s34) .none kV doc pm an cdv ct) ⟨us, []⟩ = pure ((["frame", "value"] : List Str).zip us) := fun _ _ _ _ _ _ us hl => match us, hl with | [_, _], _ => rfl
theorem b39 : ∀ (kV doc pm : Value) (an : Option Addr) (cdv ct : Value) (us : List Value), us.length = (["stack"] : List Str).length → bindArgs (PySem.W.fnOf "counts_over" "counts_over" (defArgs s39) (defBody s39) (defScope s39) .none kV doc pm an cdv ct) ⟨us, []⟩ = pure ((["stack"] : List Str).zip us) := fun _ _ _ _ _ _ us hl => match us, hl with | [_], _ => rfl
theorem b40 : ∀ (kV doc pm : Value) (an : Option Addr) (cdv ct : Value) (us : List Value), us.length = (["frame", "value"] : List Str).length → bindArgs (PySem.W.fnOf "is_stack_value" "is_stack_value" (defArgs s40) (defBody s40) (defScope s40) .none kV doc pm an cdv ct) ⟨us, []⟩ = pure ((["frame", "value"] : List Str).zip us) := fun _ _ _ _ _ _ us hl => match us, hl with | [_, _], _ => rfl
theorem b41 : ∀ (kV doc pm : Value) (an : Option Addr) (cdv ct : Value) (us : List Value), us.length = (["frame", "value"] : List Str).length → bindArgs (PySem.W.fnOf "want_stack" "want_stack" (defArgs s41) (defBody s41) (defScope s41) .none kV doc pm an cdv ct) ⟨us, []⟩ = pure ((["frame", "value"] : List Str).zip us) := fun _ _ _ _ _ _ us hl => match us, hl with | [_, _], _ => rfl
theorem b44 : ∀ (kV doc pm : Value) (an : Option Addr) (cdv ct : Value) (us : List Value), us.length = (["frame", "value"] : List Str).length → bindArgs (PySem.W.fnOf "is_change_in" "is_change_in" (defArgs s44) (defBody s44) (defScope s44) .none kV doc pm an cdv ct) ⟨us, []⟩ = pure ((["frame", "value"] : List Str).zip us) := fun _ _ _ _ _ _ us hl => match us, hl with | [_, _], _ => rfl
theorem b49 : ∀ (kV doc pm : Value) (an : Option Addr) (cdv ct : Value) (us : List Value), us.length = (["pattern"] : List Str).length → bindArgs (PySem.W.fnOf "turned_pattern" "turned_pattern" (defArgs s49) (defBody s49) (defScope s49) .none kV doc pm an cdv ct) ⟨us, []⟩ = pure ((["pattern"] : List Str).zip us) := fun _ _ _ _ _ _ us hl => match us, hl with | [_], _ => rfl
theorem b50 : ∀ (kV doc pm : Value) (an : Option Addr) (cdv ct : Value) (us : List Value), us.length = (["changes"] : List Str).length → bindArgs (PySem.W.fnOf "pattern_by" "pattern_by" (defArgs s50) (defBody s50) (defScope s50) .none kV doc pm an cdv ct) ⟨us, []⟩ = pure ((["changes"] : List Str).zip us) := fun _ _ _ _ _ _ us hl => match us, hl with | [_], _ => rfl
theorem b51 : ∀ (kV doc pm : Value) (an : Option Addr) (cdv ct : Value) (us : List Value), us.length = (["changes"] : List Str).length → bindArgs (PySem.W.fnOf "adds_to_nought" "adds_to_nought" (defArgs s51) (defBody s51) (defScope s51) .none kV doc pm an cdv ct) ⟨us, []⟩ = pure ((["changes"] : List Str).zip us) := fun _ _ _ _ _ _ us hl => match us, hl with | [_], _ => rfl
theorem b52 : ∀ (kV doc pm : Value) (an : Option Addr) (cdv ct : Value) (us : List Value), us.length = (["pattern"] : List Str).length → bindArgs (PySem.W.fnOf "ends_by" "ends_by" (defArgs s52) (defBody s52) (defScope s52) .none kV doc pm an cdv ct) ⟨us, []⟩ = pure ((["pattern"] : List Str).zip us) := fun _ _ _ _ _ _ us hl => match us, hl with | [_], _ => rfl
theorem b53 : ∀ (kV doc pm : Value) (an : Option Addr) (cdv ct : Value) (us : List Value), us.length = (["table", "change"] : List Str).length → bindArgs (PySem.W.fnOf "with_change" "with_change" (defArgs s53) (defBody s53) (defScope s53) .none kV doc pm an cdv ct) ⟨us, []⟩ = pure ((["table", "change"] : List Str).zip us) := fun _ _ _ _ _ _ us hl => match us, hl with | [_, _], _ => rfl
theorem b54 : ∀ (kV doc pm : Value) (an : Option Addr) (cdv ct : Value) (us : List Value), us.length = (["changes", "stack"] : List Str).length → bindArgs (PySem.W.fnOf "put_all" "put_all" (defArgs s54) (defBody s54) (defScope s54) .none kV doc pm an cdv ct) ⟨us, []⟩ = pure ((["changes", "stack"] : List Str).zip us) := fun _ _ _ _ _ _ us hl => match us, hl with | [_, _], _ => rfl
theorem b55 : ∀ (kV doc pm : Value) (an : Option Addr) (cdv ct : Value) (us : List Value), us.length = (["patterns", "stack"] : List Str).length → bindArgs (PySem.W.fnOf "steps_of_stack" "steps_of_stack" (defArgs s55) (defBody s55) (defScope s55) .none kV doc pm an cdv ct) ⟨us, []⟩ = pure ((["patterns", "stack"] : List Str).zip us) := fun _ _ _ _ _ _ us hl => match us, hl with | [_, _], _ => rfl
theorem b56 : ∀ (kV doc pm : Value) (an : Option Addr) (cdv ct : Value) (us : List Value), us.length = (["patterns", "stack", "other"] : List Str).length → bindArgs (PySem.W.fnOf "is_step_of" "is_step_of" (defArgs s56) (defBody s56) (defScope s56) .none kV doc pm an cdv ct) ⟨us, []⟩ = pure ((["patterns", "stack", "other"] : List Str).zip us) := fun _ _ _ _ _ _ us hl => match us, hl with | [_, _, _], _ => rfl
theorem b57 : ∀ (kV doc pm : Value) (an : Option Addr) (cdv ct : Value) (us : List Value), us.length = (["patterns", "stack"] : List Str).length → bindArgs (PySem.W.fnOf "stacks_from" "stacks_from" (defArgs s57) (defBody s57) (defScope s57) .none kV doc pm an cdv ct) ⟨us, []⟩ = pure ((["patterns", "stack"] : List Str).zip us) := fun _ _ _ _ _ _ us hl => match us, hl with | [_, _], _ => rfl
theorem b58 : ∀ (kV doc pm : Value) (an : Option Addr) (cdv ct : Value) (us : List Value), us.length = (["patterns", "stack"] : List Str).length → bindArgs (PySem.W.fnOf "closed_of_stack" "closed_of_stack" (defArgs s58) (defBody s58) (defScope s58) .none kV doc pm an cdv ct) ⟨us, []⟩ = pure ((["patterns", "stack"] : List Str).zip us) := fun _ _ _ _ _ _ us hl => match us, hl with | [_, _], _ => rfl
theorem b59 : ∀ (kV doc pm : Value) (an : Option Addr) (cdv ct : Value) (us : List Value), us.length = (["patterns", "stack", "other"] : List Str).length → bindArgs (PySem.W.fnOf "road_of_stacks" "road_of_stacks" (defArgs s59) (defBody s59) (defScope s59) .none kV doc pm an cdv ct) ⟨us, []⟩ = pure ((["patterns", "stack", "other"] : List Str).zip us) := fun _ _ _ _ _ _ us hl => match us, hl with | [_, _, _], _ => rfl
theorem b60 : ∀ (kV doc pm : Value) (an : Option Addr) (cdv ct : Value) (us : List Value), us.length = (["frame", "value"] : List Str).length → bindArgs (PySem.W.fnOf "is_pattern_value" "is_pattern_value" (defArgs s60) (defBody s60) (defScope s60) .none kV doc pm an cdv ct) ⟨us, []⟩ = pure ((["frame", "value"] : List Str).zip us) := fun _ _ _ _ _ _ us hl => match us, hl with | [_, _], _ => rfl
theorem b61 : ∀ (kV doc pm : Value) (an : Option Addr) (cdv ct : Value) (us : List Value), us.length = (["frame", "value"] : List Str).length → bindArgs (PySem.W.fnOf "is_pattern_book_value" "is_pattern_book_value" (defArgs s61) (defBody s61) (defScope s61) .none kV doc pm an cdv ct) ⟨us, []⟩ = pure ((["frame", "value"] : List Str).zip us) := fun _ _ _ _ _ _ us hl => match us, hl with | [_, _], _ => rfl
theorem b62 : ∀ (kV doc pm : Value) (an : Option Addr) (cdv ct : Value) (us : List Value), us.length = (["frame", "patterns", "value"] : List Str).length → bindArgs (PySem.W.fnOf "is_road_of_stacks" "is_road_of_stacks" (defArgs s62) (defBody s62) (defScope s62) .none kV doc pm an cdv ct) ⟨us, []⟩ = pure ((["frame", "patterns", "value"] : List Str).zip us) := fun _ _ _ _ _ _ us hl => match us, hl with | [_, _, _], _ => rfl
theorem b63 : ∀ (kV doc pm : Value) (an : Option Addr) (cdv ct : Value) (us : List Value), us.length = (["frame", "value"] : List Str).length → bindArgs (PySem.W.fnOf "want_pattern" "want_pattern" (defArgs s63) (defBody s63) (defScope s63) .none kV doc pm an cdv ct) ⟨us, []⟩ = pure ((["frame", "value"] : List Str).zip us) := fun _ _ _ _ _ _ us hl => match us, hl with | [_, _], _ => rfl
theorem b64 : ∀ (kV doc pm : Value) (an : Option Addr) (cdv ct : Value) (us : List Value), us.length = (["frame", "value"] : List Str).length → bindArgs (PySem.W.fnOf "want_patterns" "want_patterns" (defArgs s64) (defBody s64) (defScope s64) .none kV doc pm an cdv ct) ⟨us, []⟩ = pure ((["frame", "value"] : List Str).zip us) := fun _ _ _ _ _ _ us hl => match us, hl with | [_, _], _ => rfl
theorem b65 : ∀ (kV doc pm : Value) (an : Option Addr) (cdv ct : Value) (us : List Value), us.length = (["frame", "value"] : List Str).length → bindArgs (PySem.W.fnOf "is_pattern" "is_pattern" (defArgs s65) (defBody s65) (defScope s65) .none kV doc pm an cdv ct) ⟨us, []⟩ = pure ((["frame", "value"] : List Str).zip us) := fun _ _ _ _ _ _ us hl => match us, hl with | [_, _], _ => rfl
theorem b66 : ∀ (kV doc pm : Value) (an : Option Addr) (cdv ct : Value) (us : List Value), us.length = (["frame", "value"] : List Str).length → bindArgs (PySem.W.fnOf "is_pattern_book" "is_pattern_book" (defArgs s66) (defBody s66) (defScope s66) .none kV doc pm an cdv ct) ⟨us, []⟩ = pure ((["frame", "value"] : List Str).zip us) := fun _ _ _ _ _ _ us hl => match us, hl with | [_, _], _ => rfl
theorem b67 : ∀ (kV doc pm : Value) (an : Option Addr) (cdv ct : Value) (us : List Value), us.length = (["frame", "changes"] : List Str).length → bindArgs (PySem.W.fnOf "pattern_of" "pattern_of" (defArgs s67) (defBody s67) (defScope s67) .none kV doc pm an cdv ct) ⟨us, []⟩ = pure ((["frame", "changes"] : List Str).zip us) := fun _ _ _ _ _ _ us hl => match us, hl with | [_, _], _ => rfl
theorem b68 : ∀ (kV doc pm : Value) (an : Option Addr) (cdv ct : Value) (us : List Value), us.length = (["frame", "pattern"] : List Str).length → bindArgs (PySem.W.fnOf "pattern_ends" "pattern_ends" (defArgs s68) (defBody s68) (defScope s68) .none kV doc pm an cdv ct) ⟨us, []⟩ = pure ((["frame", "pattern"] : List Str).zip us) := fun _ _ _ _ _ _ us hl => match us, hl with | [_, _], _ => rfl
theorem b69 : ∀ (kV doc pm : Value) (an : Option Addr) (cdv ct : Value) (us : List Value), us.length = (["frame", "patterns", "stack"] : List Str).length → bindArgs (PySem.W.fnOf "want_put" "want_put" (defArgs s69) (defBody s69) (defScope s69) .none kV doc pm an cdv ct) ⟨us, []⟩ = pure ((["frame", "patterns", "stack"] : List Str).zip us) := fun _ _ _ _ _ _ us hl => match us, hl with | [_, _, _], _ => rfl
theorem b70 : ∀ (kV doc pm : Value) (an : Option Addr) (cdv ct : Value) (us : List Value), us.length = (["frame", "patterns", "stack"] : List Str).length → bindArgs (PySem.W.fnOf "stack_steps" "stack_steps" (defArgs s70) (defBody s70) (defScope s70) .none kV doc pm an cdv ct) ⟨us, []⟩ = pure ((["frame", "patterns", "stack"] : List Str).zip us) := fun _ _ _ _ _ _ us hl => match us, hl with | [_, _, _], _ => rfl
theorem b71 : ∀ (kV doc pm : Value) (an : Option Addr) (cdv ct : Value) (us : List Value), us.length = (["frame", "patterns", "stack"] : List Str).length → bindArgs (PySem.W.fnOf "closed_stacks" "closed_stacks" (defArgs s71) (defBody s71) (defScope s71) .none kV doc pm an cdv ct) ⟨us, []⟩ = pure ((["frame", "patterns", "stack"] : List Str).zip us) := fun _ _ _ _ _ _ us hl => match us, hl with | [_, _, _], _ => rfl
theorem b72 : ∀ (kV doc pm : Value) (an : Option Addr) (cdv ct : Value) (us : List Value), us.length = (["frame", "patterns", "stack", "other"] : List Str).length → bindArgs (PySem.W.fnOf "stack_road" "stack_road" (defArgs s72) (defBody s72) (defScope s72) .none kV doc pm an cdv ct) ⟨us, []⟩ = pure ((["frame", "patterns", "stack", "other"] : List Str).zip us) := fun _ _ _ _ _ _ us hl => match us, hl with | [_, _, _, _], _ => rfl
theorem b73 : ∀ (kV doc pm : Value) (an : Option Addr) (cdv ct : Value) (us : List Value), us.length = (["frame", "patterns", "value"] : List Str).length → bindArgs (PySem.W.fnOf "is_stack_road" "is_stack_road" (defArgs s73) (defBody s73) (defScope s73) .none kV doc pm an cdv ct) ⟨us, []⟩ = pure ((["frame", "patterns", "value"] : List Str).zip us) := fun _ _ _ _ _ _ us hl => match us, hl with | [_, _, _], _ => rfl
theorem b75 : ∀ (kV doc pm : Value) (an : Option Addr) (cdv ct : Value) (us : List Value), us.length = (["_law_script", "_law_k"] : List Str).length → bindArgs (PySem.W.fnOf "_law_pot" "_law_pot" (defArgs s75) (defBody s75) (defScope s75) .none kV doc pm an cdv ct) ⟨us, []⟩ = pure ((["_law_script", "_law_k"] : List Str).zip us) := fun _ _ _ _ _ _ us hl => match us, hl with | [_, _], _ => rfl
theorem b76 : ∀ (kV doc pm : Value) (an : Option Addr) (cdv ct : Value) (us : List Value), us.length = (["_law_pot_here", "_law_size"] : List Str).length → bindArgs (PySem.W.fnOf "_law_draw" "_law_draw" (defArgs s76) (defBody s76) (defScope s76) .none kV doc pm an cdv ct) ⟨us, []⟩ = pure ((["_law_pot_here", "_law_size"] : List Str).zip us) := fun _ _ _ _ _ _ us hl => match us, hl with | [_, _], _ => rfl
theorem b77 : ∀ (kV doc pm : Value) (an : Option Addr) (cdv ct : Value) (us : List Value), us.length = (["_law_pot_here", "_law_some"] : List Str).length → bindArgs (PySem.W.fnOf "_law_pick" "_law_pick" (defArgs s77) (defBody s77) (defScope s77) .none kV doc pm an cdv ct) ⟨us, []⟩ = pure ((["_law_pot_here", "_law_some"] : List Str).zip us) := fun _ _ _ _ _ _ us hl => match us, hl with | [_, _], _ => rfl
theorem b78 : ∀ (kV doc pm : Value) (an : Option Addr) (cdv ct : Value) (us : List Value), us.length = (["_law_pot_here"] : List Str).length → bindArgs (PySem.W.fnOf "_law_drawn_frame" "_law_drawn_frame" (defArgs s78) (defBody s78) (defScope s78) .none kV doc pm an cdv ct) ⟨us, []⟩ = pure ((["_law_pot_here"] : List Str).zip us) := fun _ _ _ _ _ _ us hl => match us, hl with | [_], _ => rfl
theorem b79 : ∀ (kV doc pm : Value) (an : Option Addr) (cdv ct : Value) (us : List Value), us.length = (["_law_frame", "_law_row"] : List Str).length → bindArgs (PySem.W.fnOf "_law_sums" "_law_sums" (defArgs s79) (defBody s79) (defScope s79) .none kV doc pm an cdv ct) ⟨us, []⟩ = pure ((["_law_frame", "_law_row"] : List Str).zip us) := fun _ _ _ _ _ _ us hl => match us, hl with | [_, _], _ => rfl
theorem b80 : ∀ (kV doc pm : Value) (an : Option Addr) (cdv ct : Value) (us : List Value), us.length = (["_law_frame", "_law_row"] : List Str).length → bindArgs (PySem.W.fnOf "_law_is_change" "_law_is_change" (defArgs s80) (defBody s80) (defScope s80) .none kV doc pm an cdv ct) ⟨us, []⟩ = pure ((["_law_frame", "_law_row"] : List Str).zip us) := fun _ _ _ _ _ _ us hl => match us, hl with | [_, _], _ => rfl
theorem b81 : ∀ (kV doc pm : Value) (an : Option Addr) (cdv ct : Value) (us : List Value), us.length = (["_law_one", "_law_other"] : List Str).length → bindArgs (PySem.W.fnOf "_law_added" "_law_added" (defArgs s81) (defBody s81) (defScope s81) .none kV doc pm an cdv ct) ⟨us, []⟩ = pure ((["_law_one", "_law_other"] : List Str).zip us) := fun _ _ _ _ _ _ us hl => match us, hl with | [_, _], _ => rfl
theorem b82 : ∀ (kV doc pm : Value) (an : Option Addr) (cdv ct : Value) (us : List Value), us.length = (["_law_row"] : List Str).length → bindArgs (PySem.W.fnOf "_law_turned" "_law_turned" (defArgs s82) (defBody s82) (defScope s82) .none kV doc pm an cdv ct) ⟨us, []⟩ = pure ((["_law_row"] : List Str).zip us) := fun _ _ _ _ _ _ us hl => match us, hl with | [_], _ => rfl
theorem b83 : ∀ (kV doc pm : Value) (an : Option Addr) (cdv ct : Value) (us : List Value), us.length = (["_law_pot_here", "_law_frame", "_law_layers", "_law_most"] : List Str).length → bindArgs (PySem.W.fnOf "_law_stack" "_law_stack" (defArgs s83) (defBody s83) (defScope s83) .none kV doc pm an cdv ct) ⟨us, []⟩ = pure ((["_law_pot_here", "_law_frame", "_law_layers", "_law_most"] : List Str).zip us) := fun _ _ _ _ _ _ us hl => match us, hl with | [_, _, _, _], _ => rfl
theorem b84 : ∀ (kV doc pm : Value) (an : Option Addr) (cdv ct : Value) (us : List Value), us.length = (["_law_changes"] : List Str).length → bindArgs (PySem.W.fnOf "_law_pattern" "_law_pattern" (defArgs s84) (defBody s84) (defScope s84) .none kV doc pm an cdv ct) ⟨us, []⟩ = pure ((["_law_changes"] : List Str).zip us) := fun _ _ _ _ _ _ us hl => match us, hl with | [_], _ => rfl
theorem b85 : ∀ (kV doc pm : Value) (an : Option Addr) (cdv ct : Value) (us : List Value), us.length = (["_law_stack_here", "_law_changes", "_law_free"] : List Str).length → bindArgs (PySem.W.fnOf "_law_put" "_law_put" (defArgs s85) (defBody s85) (defScope s85) .none kV doc pm an cdv ct) ⟨us, []⟩ = pure ((["_law_stack_here", "_law_changes", "_law_free"] : List Str).zip us) := fun _ _ _ _ _ _ us hl => match us, hl with | [_, _, _], _ => rfl
theorem b86 : ∀ (kV doc pm : Value) (an : Option Addr) (cdv ct : Value) (us : List Value), us.length = (["_law_patterns", "_law_stack_here"] : List Str).length → bindArgs (PySem.W.fnOf "_law_steps" "_law_steps" (defArgs s86) (defBody s86) (defScope s86) .none kV doc pm an cdv ct) ⟨us, []⟩ = pure ((["_law_patterns", "_law_stack_here"] : List Str).zip us) := fun _ _ _ _ _ _ us hl => match us, hl with | [_, _], _ => rfl
theorem b87 : ∀ (kV doc pm : Value) (an : Option Addr) (cdv ct : Value) (us : List Value), us.length = (["_law_patterns", "_law_stack_here"] : List Str).length → bindArgs (PySem.W.fnOf "_law_closed" "_law_closed" (defArgs s87) (defBody s87) (defScope s87) .none kV doc pm an cdv ct) ⟨us, []⟩ = pure ((["_law_patterns", "_law_stack_here"] : List Str).zip us) := fun _ _ _ _ _ _ us hl => match us, hl with | [_, _], _ => rfl
theorem b88 : ∀ (kV doc pm : Value) (an : Option Addr) (cdv ct : Value) (us : List Value), us.length = (["_law_pattern_here"] : List Str).length → bindArgs (PySem.W.fnOf "_law_ends" "_law_ends" (defArgs s88) (defBody s88) (defScope s88) .none kV doc pm an cdv ct) ⟨us, []⟩ = pure ((["_law_pattern_here"] : List Str).zip us) := fun _ _ _ _ _ _ us hl => match us, hl with | [_], _ => rfl
theorem b89 : ∀ (kV doc pm : Value) (an : Option Addr) (cdv ct : Value) (us : List Value), us.length = (["_law_many", "_law_most"] : List Str).length → bindArgs (PySem.W.fnOf "_law_rows" "_law_rows" (defArgs s89) (defBody s89) (defScope s89) .none kV doc pm an cdv ct) ⟨us, []⟩ = pure ((["_law_many", "_law_most"] : List Str).zip us) := fun _ _ _ _ _ _ us hl => match us, hl with | [_, _], _ => rfl
theorem b90 : ∀ (kV doc pm : Value) (an : Option Addr) (cdv ct : Value) (us : List Value), us.length = (["_law_rows_here", "_law_most"] : List Str).length → bindArgs (PySem.W.fnOf "_law_longer" "_law_longer" (defArgs s90) (defBody s90) (defScope s90) .none kV doc pm an cdv ct) ⟨us, []⟩ = pure ((["_law_rows_here", "_law_most"] : List Str).zip us) := fun _ _ _ _ _ _ us hl => match us, hl with | [_, _], _ => rfl
theorem b91 : ∀ (kV doc pm : Value) (an : Option Addr) (cdv ct : Value) (us : List Value), us.length = (["_law_frame"] : List Str).length → bindArgs (PySem.W.fnOf "_law_small" "_law_small" (defArgs s91) (defBody s91) (defScope s91) .none kV doc pm an cdv ct) ⟨us, []⟩ = pure ((["_law_frame"] : List Str).zip us) := fun _ _ _ _ _ _ us hl => match us, hl with | [_], _ => rfl
theorem b92 : ∀ (kV doc pm : Value) (an : Option Addr) (cdv ct : Value) (us : List Value), us.length = (["_law_pot_here", "_law_some"] : List Str).length → bindArgs (PySem.W.fnOf "_law_drawn_pattern" "_law_drawn_pattern" (defArgs s92) (defBody s92) (defScope s92) .none kV doc pm an cdv ct) ⟨us, []⟩ = pure ((["_law_pot_here", "_law_some"] : List Str).zip us) := fun _ _ _ _ _ _ us hl => match us, hl with | [_, _], _ => rfl
theorem b93 : ∀ (kV doc pm : Value) (an : Option Addr) (cdv ct : Value) (us : List Value), us.length = (["_law_patterns", "_law_stack_here"] : List Str).length → bindArgs (PySem.W.fnOf "_law_far" "_law_far" (defArgs s93) (defBody s93) (defScope s93) .none kV doc pm an cdv ct) ⟨us, []⟩ = pure ((["_law_patterns", "_law_stack_here"] : List Str).zip us) := fun _ _ _ _ _ _ us hl => match us, hl with | [_, _], _ => rfl
theorem b94 : ∀ (kV doc pm : Value) (an : Option Addr) (cdv ct : Value) (us : List Value), us.length = (["_law_frame", "_law_patterns", "_law_value"] : List Str).length → bindArgs (PySem.W.fnOf "_law_is_road" "_law_is_road" (defArgs s94) (defBody s94) (defScope s94) .none kV doc pm an cdv ct) ⟨us, []⟩ = pure ((["_law_frame", "_law_patterns", "_law_value"] : List Str).zip us) := fun _ _ _ _ _ _ us hl => match us, hl with | [_, _, _], _ => rfl
theorem b95 : ∀ (kV doc pm : Value) (an : Option Addr) (cdv ct : Value) (us : List Value), us.length = (["_law_pot_here", "_law_frame", "_law_some"] : List Str).length → bindArgs (PySem.W.fnOf "_law_pattern_right" "_law_pattern_right" (defArgs s95) (defBody s95) (defScope s95) .none kV doc pm an cdv ct) ⟨us, []⟩ = pure ((["_law_pot_here", "_law_frame", "_law_some"] : List Str).zip us) := fun _ _ _ _ _ _ us hl => match us, hl with | [_, _, _], _ => rfl
theorem b96 : ∀ (kV doc pm : Value) (an : Option Addr) (cdv ct : Value) (us : List Value), us.length = (["_law_pot_here", "_law_frame", "_law_patterns", "_law_stack_here"] : List Str).length → bindArgs (PySem.W.fnOf "_law_roads_right" "_law_roads_right" (defArgs s96) (defBody s96) (defScope s96) .none kV doc pm an cdv ct) ⟨us, []⟩ = pure ((["_law_pot_here", "_law_frame", "_law_patterns", "_law_stack_here"] : List Str).zip us) := fun _ _ _ _ _ _ us hl => match us, hl with | [_, _, _, _], _ => rfl
theorem b97 : ∀ (kV doc pm : Value) (an : Option Addr) (cdv ct : Value) (us : List Value), us.length = (["_law_pot_here"] : List Str).length → bindArgs (PySem.W.fnOf "_law_right" "_law_right" (defArgs s97) (defBody s97) (defScope s97) .none kV doc pm an cdv ct) ⟨us, []⟩ = pure ((["_law_pot_here"] : List Str).zip us) := fun _ _ _ _ _ _ us hl => match us, hl with | [_], _ => rfl
theorem b98 : ∀ (kV doc pm : Value) (an : Option Addr) (cdv ct : Value) (us : List Value), us.length = (["_law_script"] : List Str).length → bindArgs (PySem.W.fnOf "law" "law" (defArgs s98) (defBody s98) (defScope s98) .none kV doc pm an cdv ct) ⟨us, []⟩ = pure ((["_law_script"] : List Str).zip us) := fun _ _ _ _ _ _ us hl => match us, hl with | [_], _ => rfl
end K62
namespace K62
open PySem
theorem v_mk {K : PySem.W.Frag} {h : Heap} {mg : Str → Option Value} {x : Str} {i : Int} {t : Tok} (X : K.In h) (G : h.Ns mainGlobals mg) (e : PySem.W.nsIn K mainGlobals x = some (some (.int i t))) : ∃ t, mg x = some (.int i t) := ⟨t, PySem.W.mg_of X G e⟩
end K62
open PySem PySem.W PyProof.Rows
set_option maxHeartbeats 0 in
theorem PySem.Challenge.cw_sumroads_k62_whole_patterns_put_on_stack_holds : PySem.Challenge.rw_sumroads_k62_whole_patterns_put_on_stack.Holds := by
  w_on; o_law; k_head; (case hw => w_witness2)
  k_fill
  refine K62.walk_ofG (l := PySem.Challenge.rw_sumroads_k62_whole_patterns_put_on_stack) (n := 63) (k := 12) (x := "_law_script") (φ := K62.φ98) rfl (by decide) rfl ⟨rfl, by decide, by decide⟩ (fun w h Y => PySem.W.kIn_of Y) ?F (fun ns _ => ⟨ns, trivial, rfl, rfl, rfl⟩)
  case F =>
    intro w mg fa h KX G hmg
    refine' K62.law_fin ⟨?z_abs, ?z_all, ?z_any, ?z_bool, ?z_divmod, ?z_enumerate, ?z_int, ?z_isinstance, ?z_len, ?z_list, ?z_max, ?z_min, ?z_range, ?z_repr, ?z_set, ?z_sorted, ?z_str, ?z_sum, ?z_tuple, ?z_zip, ?v_MOST_CELLS, ?v_MOST_FRAME_ROWS, ?v_MOST_ENTRY, ?v_MOST_SUM, ?v_MOST_LAYERS, ?v_MOST_AT_CELL, ?v_MOST_STACKS, ?v_MOST_IN_MOVE, ?v_LEAST_KIND, ?v_MOST_KIND, ?v_MOST_PATTERNS, ?a10, ?a11, ?a12, ?a13, ?a15, ?a16, ?a17, ?a18, ?a23, ?a24, ?a25, ?a26, ?a27, ?a28, ?a29, ?a32, ?a33, ?a34, ?a39, ?a40, ?a41, ?a44, ?a49, ?a50, ?a51, ?a52, ?a53, ?a54, ?a55, ?a56, ?a57, ?a58, ?a59, ?a60, ?a61, ?a62, ?a63, ?a64, ?a65, ?a66, ?a67, ?a68, ?a69, ?a70, ?a71, ?a72, ?a73, ?a75, ?a76, ?a77, ?a78, ?a79, ?a80, ?a81, ?a82, ?a83, ?a84, ?a85, ?a86, ?a87, ?a88, ?a89, ?a90, ?a91, ?a92, ?a93, ?a94, ?a95, ?a96, ?a97, ?a98⟩ hmg
    case z_abs =>
      refine' PySem.W.mg_none_of KX G ?_
      k_is
    case z_all =>
      refine' PySem.W.mg_none_of KX G ?_
      k_is
    case z_any =>
      refine' PySem.W.mg_none_of KX G ?_
      k_is
    case z_bool =>
      refine' PySem.W.mg_none_of KX G ?_
      k_is
    case z_divmod =>
      refine' PySem.W.mg_none_of KX G ?_
      k_is
    case z_enumerate =>
      refine' PySem.W.mg_none_of KX G ?_
      k_is
    case z_int =>
      refine' PySem.W.mg_none_of KX G ?_
      k_is
    case z_isinstance =>
      refine' PySem.W.mg_none_of KX G ?_
      k_is
    case z_len =>
      refine' PySem.W.mg_none_of KX G ?_
      k_is
    case z_list =>
      refine' PySem.W.mg_none_of KX G ?_
      k_is
    case z_max =>
      refine' PySem.W.mg_none_of KX G ?_
      k_is
    case z_min =>
      refine' PySem.W.mg_none_of KX G ?_
      k_is
    case z_range =>
      refine' PySem.W.mg_none_of KX G ?_
      k_is
    case z_repr =>
      refine' PySem.W.mg_none_of KX G ?_
      k_is
    case z_set =>
      refine' PySem.W.mg_none_of KX G ?_
      k_is
    case z_sorted =>
      refine' PySem.W.mg_none_of KX G ?_
      k_is
    case z_str =>
      refine' PySem.W.mg_none_of KX G ?_
      k_is
    case z_sum =>
      refine' PySem.W.mg_none_of KX G ?_
      k_is
    case z_tuple =>
      refine' PySem.W.mg_none_of KX G ?_
      k_is
    case z_zip =>
      refine' PySem.W.mg_none_of KX G ?_
      k_is
    case v_MOST_CELLS =>
      refine' K62.v_mk KX G ?e
      (case e => k_is)
    case v_MOST_FRAME_ROWS =>
      refine' K62.v_mk KX G ?e
      (case e => k_is)
    case v_MOST_ENTRY =>
      refine' K62.v_mk KX G ?e
      (case e => k_is)
    case v_MOST_SUM =>
      refine' K62.v_mk KX G ?e
      (case e => k_is)
    case v_MOST_LAYERS =>
      refine' K62.v_mk KX G ?e
      (case e => k_is)
    case v_MOST_AT_CELL =>
      refine' K62.v_mk KX G ?e
      (case e => k_is)
    case v_MOST_STACKS =>
      refine' K62.v_mk KX G ?e
      (case e => k_is)
    case v_MOST_IN_MOVE =>
      refine' K62.v_mk KX G ?e
      (case e => k_is)
    case v_LEAST_KIND =>
      refine' K62.v_mk KX G ?e
      (case e => k_is)
    case v_MOST_KIND =>
      refine' K62.v_mk KX G ?e
      (case e => k_is)
    case v_MOST_PATTERNS =>
      refine' K62.v_mk KX G ?e
      (case e => k_is)
    case a10 =>
      refine' K62.fnAt_mk KX G K62.b10 ?a ?l ?c ?k
      (case a => k_is); (case l => k_is); (case c => k_is); (case k => k_is)
    case a11 =>
      refine' K62.fnAt_mk KX G K62.b11 ?a ?l ?c ?k
      (case a => k_is); (case l => k_is); (case c => k_is); (case k => k_is)
    case a12 =>
      refine' K62.fnAt_mk KX G K62.b12 ?a ?l ?c ?k
      (case a => k_is); (case l => k_is); (case c => k_is); (case k => k_is)
    case a13 =>
      refine' K62.fnAt_mk KX G K62.b13 ?a ?l ?c ?k
      (case a => k_is); (case l => k_is); (case c => k_is); (case k => k_is)
    case a15 =>
      refine' K62.fnAt_mk KX G K62.b15 ?a ?l ?c ?k
      (case a => k_is); (case l => k_is); (case c => k_is); (case k => k_is)
    case a16 =>
      refine' K62.fnAt_mk KX G K62.b16 ?a ?l ?c ?k
      (case a => k_is); (case l => k_is); (case c => k_is); (case k => k_is)
    case a17 =>
      refine' K62.fnAt_mk KX G K62.b17 ?a ?l ?c ?k
      (case a => k_is); (case l => k_is); (case c => k_is); (case k => k_is)
    case a18 =>
      refine' K62.fnAt_mk KX G K62.b18 ?a ?l ?c ?k
      (case a => k_is); (case l => k_is); (case c => k_is); (case k => k_is)
    case a23 =>
      refine' K62.fnAt_mk KX G K62.b23 ?a ?l ?c ?k
      (case a => k_is); (case l => k_is); (case c => k_is); (case k => k_is)
    case a24 =>
      refine' K62.fnAt_mk KX G K62.b24 ?a ?l ?c ?k
      (case a => k_is); (case l => k_is); (case c => k_is); (case k => k_is)
    case a25 =>
      refine' K62.fnAt_mk KX G K62.b25 ?a ?l ?c ?k
      (case a => k_is); (case l => k_is); (case c => k_is); (case k => k_is)
    case a26 =>
      refine' K62.fnAt_mk KX G K62.b26 ?a ?l ?c ?k
      (case a => k_is); (case l => k_is); (case c => k_is); (case k => k_is)
    case a27 =>
      refine' K62.fnAt_mk KX G K62.b27 ?a ?l ?c ?k
      (case a => k_is); (case l => k_is); (case c => k_is); (case k => k_is)
    case a28 =>
      refine' K62.fnAt_mk KX G K62.b28 ?a ?l ?c ?k
      (case a => k_is); (case l => k_is); (case c => k_is); (case k => k_is)
    case a29 =>
      refine' K62.fnAt_mk KX G K62.b29 ?a ?l ?c ?k
      (case a => k_is); (case l => k_is); (case c => k_is); (case k => k_is)
    case a32 =>
      refine' K62.fnAt_mk KX G K62.b32 ?a ?l ?c ?k
      (case a => k_is); (case l => k_is); (case c => k_is); (case k => k_is)
    case a33 =>
      refine' K62.fnAt_mk KX G K62.b33 ?a ?l ?c ?k
      (case a => k_is); (case l => k_is); (case c => k_is); (case k => k_is)
    case a34 =>
      refine' K62.fnAt_mk KX G K62.b34 ?a ?l ?c ?k
      (case a => k_is); (case l => k_is); (case c => k_is); (case k => k_is)
    case a39 =>
      refine' K62.fnAt_mk KX G K62.b39 ?a ?l ?c ?k
      (case a => k_is); (case l => k_is); (case c => k_is); (case k => k_is)
    case a40 =>
      refine' K62.fnAt_mk KX G K62.b40 ?a ?l ?c ?k
      (case a => k_is); (case l => k_is); (case c => k_is); (case k => k_is)
    case a41 =>
      refine' K62.fnAt_mk KX G K62.b41 ?a ?l ?c ?k
      (case a => k_is); (case l => k_is); (case c => k_is); (case k => k_is)
    case a44 =>
      refine' K62.fnAt_mk KX G K62.b44 ?a ?l ?c ?k
      (case a => k_is); (case l => k_is); (case c => k_is); (case k => k_is)
    case a49 =>
      refine' K62.fnAt_mk KX G K62.b49 ?a ?l ?c ?k
      (case a => k_is); (case l => k_is); (case c => k_is); (case k => k_is)
    case a50 =>
      refine' K62.fnAt_mk KX G K62.b50 ?a ?l ?c ?k
      (case a => k_is); (case l => k_is); (case c => k_is); (case k => k_is)
    case a51 =>
      refine' K62.fnAt_mk KX G K62.b51 ?a ?l ?c ?k
      (case a => k_is); (case l => k_is); (case c => k_is); (case k => k_is)
    case a52 =>
      refine' K62.fnAt_mk KX G K62.b52 ?a ?l ?c ?k
      (case a => k_is); (case l => k_is); (case c => k_is); (case k => k_is)
    case a53 =>
      refine' K62.fnAt_mk KX G K62.b53 ?a ?l ?c ?k
      (case a => k_is); (case l => k_is); (case c => k_is); (case k => k_is)
    case a54 =>
      refine' K62.fnAt_mk KX G K62.b54 ?a ?l ?c ?k
      (case a => k_is); (case l => k_is); (case c => k_is); (case k => k_is)
    case a55 =>
      refine' K62.fnAt_mk KX G K62.b55 ?a ?l ?c ?k
      (case a => k_is); (case l => k_is); (case c => k_is); (case k => k_is)
    case a56 =>
      refine' K62.fnAt_mk KX G K62.b56 ?a ?l ?c ?k
      (case a => k_is); (case l => k_is); (case c => k_is); (case k => k_is)
    case a57 =>
      refine' K62.fnAt_mk KX G K62.b57 ?a ?l ?c ?k
      (case a => k_is); (case l => k_is); (case c => k_is); (case k => k_is)
    case a58 =>
      refine' K62.fnAt_mk KX G K62.b58 ?a ?l ?c ?k
      (case a => k_is); (case l => k_is); (case c => k_is); (case k => k_is)
    case a59 =>
      refine' K62.fnAt_mk KX G K62.b59 ?a ?l ?c ?k
      (case a => k_is); (case l => k_is); (case c => k_is); (case k => k_is)
    case a60 =>
      refine' K62.fnAt_mk KX G K62.b60 ?a ?l ?c ?k
      (case a => k_is); (case l => k_is); (case c => k_is); (case k => k_is)
    case a61 =>
      refine' K62.fnAt_mk KX G K62.b61 ?a ?l ?c ?k
      (case a => k_is); (case l => k_is); (case c => k_is); (case k => k_is)
    case a62 =>
      refine' K62.fnAt_mk KX G K62.b62 ?a ?l ?c ?k
      (case a => k_is); (case l => k_is); (case c => k_is); (case k => k_is)
    case a63 =>
      refine' K62.fnAt_mk KX G K62.b63 ?a ?l ?c ?k
      (case a => k_is); (case l => k_is); (case c => k_is); (case k => k_is)
    case a64 =>
      refine' K62.fnAt_mk KX G K62.b64 ?a ?l ?c ?k
      (case a => k_is); (case l => k_is); (case c => k_is); (case k => k_is)
    case a65 =>
      refine' K62.fnAt_mk KX G K62.b65 ?a ?l ?c ?k
      (case a => k_is); (case l => k_is); (case c => k_is); (case k => k_is)
    case a66 =>
      refine' K62.fnAt_mk KX G K62.b66 ?a ?l ?c ?k
      (case a => k_is); (case l => k_is); (case c => k_is); (case k => k_is)
    case a67 =>
      refine' K62.fnAt_mk KX G K62.b67 ?a ?l ?c ?k
      (case a => k_is); (case l => k_is); (case c => k_is); (case k => k_is)
    case a68 =>
      refine' K62.fnAt_mk KX G K62.b68 ?a ?l ?c ?k
      (case a => k_is); (case l => k_is); (case c => k_is); (case k => k_is)
    case a69 =>
      refine' K62.fnAt_mk KX G K62.b69 ?a ?l ?c ?k
      (case a => k_is); (case l => k_is); (case c => k_is); (case k => k_is)
    case a70 =>
      refine' K62.fnAt_mk KX G K62.b70 ?a ?l ?c ?k
      (case a => k_is); (case l => k_is); (case c => k_is); (case k => k_is)
    case a71 =>
      refine' K62.fnAt_mk KX G K62.b71 ?a ?l ?c ?k
      (case a => k_is); (case l => k_is); (case c => k_is); (case k => k_is)
    case a72 =>
      refine' K62.fnAt_mk KX G K62.b72 ?a ?l ?c ?k
      (case a => k_is); (case l => k_is); (case c => k_is); (case k => k_is)
    case a73 =>
      refine' K62.fnAt_mk KX G K62.b73 ?a ?l ?c ?k
      (case a => k_is); (case l => k_is); (case c => k_is); (case k => k_is)
    case a75 =>
      refine' K62.fnAt_mk KX G K62.b75 ?a ?l ?c ?k
      (case a => k_is); (case l => k_is); (case c => k_is); (case k => k_is)
    case a76 =>
      refine' K62.fnAt_mk KX G K62.b76 ?a ?l ?c ?k
      (case a => k_is); (case l => k_is); (case c => k_is); (case k => k_is)
    case a77 =>
      refine' K62.fnAt_mk KX G K62.b77 ?a ?l ?c ?k
      (case a => k_is); (case l => k_is); (case c => k_is); (case k => k_is)
    case a78 =>
      refine' K62.fnAt_mk KX G K62.b78 ?a ?l ?c ?k
      (case a => k_is); (case l => k_is); (case c => k_is); (case k => k_is)
    case a79 =>
      refine' K62.fnAt_mk KX G K62.b79 ?a ?l ?c ?k
      (case a => k_is); (case l => k_is); (case c => k_is); (case k => k_is)
    case a80 =>
      refine' K62.fnAt_mk KX G K62.b80 ?a ?l ?c ?k
      (case a => k_is); (case l => k_is); (case c => k_is); (case k => k_is)
    case a81 =>
      refine' K62.fnAt_mk KX G K62.b81 ?a ?l ?c ?k
      (case a => k_is); (case l => k_is); (case c => k_is); (case k => k_is)
    case a82 =>
      refine' K62.fnAt_mk KX G K62.b82 ?a ?l ?c ?k
      (case a => k_is); (case l => k_is); (case c => k_is); (case k => k_is)
    case a83 =>
      refine' K62.fnAt_mk KX G K62.b83 ?a ?l ?c ?k
      (case a => k_is); (case l => k_is); (case c => k_is); (case k => k_is)
    case a84 =>
      refine' K62.fnAt_mk KX G K62.b84 ?a ?l ?c ?k
      (case a => k_is); (case l => k_is); (case c => k_is); (case k => k_is)
    case a85 =>
      refine' K62.fnAt_mk KX G K62.b85 ?a ?l ?c ?k
      (case a => k_is); (case l => k_is); (case c => k_is); (case k => k_is)
    case a86 =>
      refine' K62.fnAt_mk KX G K62.b86 ?a ?l ?c ?k
      (case a => k_is); (case l => k_is); (case c => k_is); (case k => k_is)
    case a87 =>
      refine' K62.fnAt_mk KX G K62.b87 ?a ?l ?c ?k
      (case a => k_is); (case l => k_is); (case c => k_is); (case k => k_is)
    case a88 =>
      refine' K62.fnAt_mk KX G K62.b88 ?a ?l ?c ?k
      (case a => k_is); (case l => k_is); (case c => k_is); (case k => k_is)
    case a89 =>
      refine' K62.fnAt_mk KX G K62.b89 ?a ?l ?c ?k
      (case a => k_is); (case l => k_is); (case c => k_is); (case k => k_is)
    case a90 =>
      refine' K62.fnAt_mk KX G K62.b90 ?a ?l ?c ?k
      (case a => k_is); (case l => k_is); (case c => k_is); (case k => k_is)
    case a91 =>
      refine' K62.fnAt_mk KX G K62.b91 ?a ?l ?c ?k
      (case a => k_is); (case l => k_is); (case c => k_is); (case k => k_is)
    case a92 =>
      refine' K62.fnAt_mk KX G K62.b92 ?a ?l ?c ?k
      (case a => k_is); (case l => k_is); (case c => k_is); (case k => k_is)
    case a93 =>
      refine' K62.fnAt_mk KX G K62.b93 ?a ?l ?c ?k
      (case a => k_is); (case l => k_is); (case c => k_is); (case k => k_is)
    case a94 =>
      refine' K62.fnAt_mk KX G K62.b94 ?a ?l ?c ?k
      (case a => k_is); (case l => k_is); (case c => k_is); (case k => k_is)
    case a95 =>
      refine' K62.fnAt_mk KX G K62.b95 ?a ?l ?c ?k
      (case a => k_is); (case l => k_is); (case c => k_is); (case k => k_is)
    case a96 =>
      refine' K62.fnAt_mk KX G K62.b96 ?a ?l ?c ?k
      (case a => k_is); (case l => k_is); (case c => k_is); (case k => k_is)
    case a97 =>
      refine' K62.fnAt_mk KX G K62.b97 ?a ?l ?c ?k
      (case a => k_is); (case l => k_is); (case c => k_is); (case k => k_is)
    case a98 =>
      refine' K62.fnAt_mk KX G K62.b98 ?a ?l ?c ?k
      (case a => k_is); (case l => k_is); (case c => k_is); (case k => k_is)
