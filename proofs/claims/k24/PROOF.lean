import PyProof.Rows.All
import Wide.All
import OpenK.AllK
import Wide.FinOn
import HandS.ForMost
import HandS.Zip
import HandS.IsInst
import HandS.Flow
import HandS.Style
import HandS.TupMul
import HandS.SortInts
import PySem.Challenge.RW_roomhalls_k24_whole_quarters
set_option Elab.async false
set_option linter.all false
set_option maxRecDepth 100000
set_option maxHeartbeats 1000000
/-! The Q-layer: Python expressions and statements as Lean functions on plain data. -/
namespace QL
open PySem PySem.Spec PyProof.Rows L2

abbrev D := PyData
/-- what an own (mutable, not shared) object holds -/
inductive Ow where
  | lst (ds : List D)
  | dk (kvs : List (Int × D))
/-- what is known of a slot -/
inductive Sl where
  | un
  | dat (d : D)
  | scr (ns : List Int)
  | own (o : Ow)
abbrev Ro := List Sl
abbrev Fr := PySem.W.Frag
abbrev St := L2.St

theorem SqT_mono {K : Fr} {H H' : Hp} {a : Addr} {xs : List V} (e : Same H H') (h : SqT K H a xs) : SqT K H' a xs := by
  rcases h with (h | ⟨o, h⟩) | h
  · exact .inl (.inl (e _ _ h))
  · exact .inl (.inr ⟨o, e _ _ h⟩)
  · exact .inr h
mutual
/-- data: lists stand tracked, tuples tracked or written -/
inductive Dq (K : Fr) (H : Hp) : V → D → Prop
  | non : Dq K H .non .none
  | bl (b : Bool) : Dq K H (.bl b) (.bool b)
  | int (i : Int) : Dq K H (.int i) (.int i)
  | str (x : Str) : Dq K H (.str x) (.str x)
  | lst {a : Addr} {xs : List V} {ds : List D} : H a = some (.lst xs) → DqAll K H xs ds → Dq K H (.ref a) (.list ds)
  | tup {a : Addr} {xs : List V} {ds : List D} : SqT K H a xs → DqAll K H xs ds → Dq K H (.ref a) (.tuple ds)
inductive DqAll (K : Fr) (H : Hp) : List V → List D → Prop
  | nil : DqAll K H [] []
  | cons {v : V} {vs : List V} {d : D} {ds : List D} : Dq K H v d → DqAll K H vs ds → DqAll K H (v :: vs) (d :: ds)
end
mutual
theorem Dq_mono {K : Fr} {H H' : Hp} (e : Same H H') : ∀ {v : V} {d : D}, Dq K H v d → Dq K H' v d
  | _, _, .non => .non
  | _, _, .bl b => .bl b
  | _, _, .int i => .int i
  | _, _, .str x => .str x
  | _, _, .lst h a => .lst (e _ _ h) (DqAll_mono e a)
  | _, _, .tup h a => .tup (SqT_mono e h) (DqAll_mono e a)
theorem DqAll_mono {K : Fr} {H H' : Hp} (e : Same H H') : ∀ {v : List V} {d : List D}, DqAll K H v d → DqAll K H' v d
  | _, _, .nil => .nil
  | _, _, .cons h a => .cons (Dq_mono e h) (DqAll_mono e a)
end
mutual
theorem Dq.dp {K : Fr} {H H' : Hp} (e : Same H H') : ∀ {v : V} {d : D}, Dq K H v d → Dp K H' v d
  | _, _, .non => .non
  | _, _, .bl b => .bl b
  | _, _, .int i => .int i
  | _, _, .str x => .str x
  | _, _, .lst h a => .lst (SqL.of (e _ _ h)) (DqAll.dp e a)
  | _, _, .tup h a => .tup (SqT_mono e h) (DqAll.dp e a)
theorem DqAll.dp {K : Fr} {H H' : Hp} (e : Same H H') : ∀ {v : List V} {d : List D}, DqAll K H v d → DpAll K H' v d
  | _, _, .nil => .nil
  | _, _, .cons h a => .cons (Dq.dp e h) (DqAll.dp e a)
end
theorem DqAll.length {K : Fr} {H : Hp} : ∀ {vs : List V} {ds : List D}, DqAll K H vs ds → vs.length = ds.length
  | _, _, .nil => rfl
  | _, _, .cons _ t => by simp [DqAll.length t]
theorem DqAll.append {K : Fr} {H : Hp} : ∀ {vs ws : List V} {ds es : List D}, DqAll K H vs ds → DqAll K H ws es → DqAll K H (vs ++ ws) (ds ++ es)
  | _, _, _, _, .nil, s => s
  | _, _, _, _, .cons r t, s => .cons r (DqAll.append t s)
theorem DqAll.get {K : Fr} {H : Hp} : ∀ {vs : List V} {ds : List D} {i : Nat} {d : D}, DqAll K H vs ds → ds[i]? = some d → ∃ v, vs[i]? = some v ∧ Dq K H v d
  | _, _, _, _, .nil, e => by simp at e
  | _, _, 0, _, .cons r _, e => by simp at e; subst e; exact ⟨_, rfl, r⟩
  | _, _, i + 1, d, .cons _ t, e => by
    obtain ⟨u, h1, h2⟩ := DqAll.get (i := i) (d := d) t (by simpa using e)
    exact ⟨u, by simpa using h1, h2⟩
theorem DqAll.getV {K : Fr} {H : Hp} : ∀ {vs : List V} {ds : List D} {i : Nat} {v : V}, DqAll K H vs ds → vs[i]? = some v → ∃ d, ds[i]? = some d ∧ Dq K H v d
  | _, _, _, _, .nil, e => by simp at e
  | _, _, 0, _, .cons r _, e => by simp at e; subst e; exact ⟨_, rfl, r⟩
  | _, _, i + 1, d, .cons _ t, e => by
    obtain ⟨u, h1, h2⟩ := DqAll.getV (i := i) (v := d) t (by simpa using e)
    exact ⟨u, by simpa using h1, h2⟩
theorem DqAll.set {K : Fr} {H : Hp} {v : V} {d : D} (r : Dq K H v d) : ∀ {vs : List V} {ds : List D} (i : Nat), DqAll K H vs ds → DqAll K H (vs.set i v) (ds.set i d)
  | _, _, _, .nil => .nil
  | _, _, 0, .cons _ t => .cons r t
  | _, _, i + 1, .cons q t => .cons q (DqAll.set r i t)
theorem DqAll.take {K : Fr} {H : Hp} : ∀ {vs : List V} {ds : List D} (n : Nat), DqAll K H vs ds → DqAll K H (vs.take n) (ds.take n)
  | _, _, 0, _ => .nil
  | _, _, _ + 1, .nil => .nil
  | _, _, n + 1, .cons r t => .cons r (DqAll.take n t)
theorem DqAll.drop {K : Fr} {H : Hp} : ∀ {vs : List V} {ds : List D} (n : Nat), DqAll K H vs ds → DqAll K H (vs.drop n) (ds.drop n)
  | _, _, 0, r => r
  | _, _, _ + 1, .nil => .nil
  | _, _, n + 1, .cons _ t => DqAll.drop n t
theorem DqAll.eraseIdx {K : Fr} {H : Hp} : ∀ {vs : List V} {ds : List D} (n : Nat), DqAll K H vs ds → DqAll K H (vs.eraseIdx n) (ds.eraseIdx n)
  | _, _, _, .nil => .nil
  | _, _, 0, .cons _ t => t
  | _, _, n + 1, .cons r t => .cons r (DqAll.eraseIdx n t)
theorem DqAll.reverse {K : Fr} {H : Hp} : ∀ {vs : List V} {ds : List D}, DqAll K H vs ds → DqAll K H vs.reverse ds.reverse
  | _, _, .nil => .nil
  | _, _, .cons r t => by
    rw [List.reverse_cons, List.reverse_cons]
    exact DqAll.append (DqAll.reverse t) (.cons r .nil)

/-- an own object's content -/
def OwOk (K : Fr) (G : Hp) : Ow → HO → Prop
  | .lst ds, .lst vs => DqAll K G vs ds
  | .dk kvs, .dK us => Paired (fun (p : Int × D) (q : Key × V) => q.1 = Sum.inl p.1 ∧ Dq K G q.2 p.2) kvs us
  | _, _ => False
theorem OwOk_mono {K : Fr} {G G' : Hp} (e : Same G G') : ∀ {o : Ow} {h : HO}, OwOk K G o h → OwOk K G' o h := by
  intro o h
  cases o with
  | lst ds =>
    cases h <;> first | exact fun z => z.elim | exact fun z => DqAll_mono e z
  | dk kvs =>
    cases h <;> first | exact fun z => z.elim | exact fun z => Paired.mapP z fun _ _ q => ⟨q.1, Dq_mono e q.2⟩
def SlOk (K : Fr) (R G H : Hp) : Sl → Option (Option V) → Prop
  | .un, _ => True
  | .dat d, o => ∃ v, o = some (some v) ∧ Dq K G v d
  | .scr ns, o => ∃ a, o = some (some (.ref a)) ∧ SqL K G a (ns.map V.int)
  | .own c, o => ∃ p ho, o = some (some (.ref p)) ∧ H p = some ho ∧ G p = none ∧ R p = none ∧ OwOk K G c ho
/-- R: what is others'; G: what is frozen data; the slots ρ of σ -/
structure Rep (K : Fr) (R G H : Hp) (ρ : Ro) (σ : St) : Prop where
  len : ρ.length = σ.length
  subR : Same R H
  subG : Same G H
  dis : ∀ a o, R a = some o → G a = none
  slot : ∀ (i : Nat) (s : Sl), ρ[i]? = some s → SlOk K R G H s σ[i]?
  apart : ∀ (i j : Nat) (c c' : Ow) (p : Addr), ρ[i]? = some (.own c) → ρ[j]? = some (.own c') → σ[i]? = some (some (.ref p)) → σ[j]? = some (some (.ref p)) → i = j
/-- the heap has grown, and the data with it -/
structure Gr (G H G' H' : Hp) : Prop where
  hh : Same H H'
  gg : Same G G'
  gh : Same G' H'
  fr : ∀ a o, G a = none → G' a = some o → H a = none
theorem Gr.refl {G H : Hp} (h : Same G H) : Gr G H G H := ⟨.refl _, .refl _, h, fun a o h1 h2 => by rw [h1] at h2; cases h2⟩
theorem Gr.trans {G H G1 H1 G2 H2 : Hp} (a : Gr G H G1 H1) (b : Gr G1 H1 G2 H2) : Gr G H G2 H2 :=
  ⟨a.hh.trans b.hh, a.gg.trans b.gg, b.gh, fun c o h1 h2 => by
    cases q : G1 c with
    | none => exact a.hh.free (b.fr c o q h2)
    | some u => exact a.fr c u h1 q⟩
/-- a new object of data -/
theorem Gr.new {G H : Hp} {p : Addr} {o : HO} (h : Same G H) (n : H p = none) : Gr G H (upd G p o) (upd H p o) := by
  refine ⟨fun b u e => ?_, fun b u e => ?_, fun b u e => ?_, fun a u h1 h2 => ?_⟩
  · rw [upd_ne (ne_of_none e n)]; exact e
  · rw [upd_ne (ne_of_none (h _ _ e) n)]; exact e
  · by_cases hb : b = p
    · subst hb; rw [upd_same] at e ⊢; exact e
    · rw [upd_ne hb] at e ⊢; exact h _ _ e
  · by_cases hb : a = p
    · subst hb; exact n
    · rw [upd_ne hb, h1] at h2; cases h2
/-- a new object that is not data (forgotten, or to be owned) -/
theorem Gr.junk {G H : Hp} {p : Addr} {o : HO} (h : Same G H) (n : H p = none) : Gr G H G (upd H p o) := by
  refine ⟨fun b u e => ?_, .refl _, fun b u e => ?_, fun a u h1 h2 => ?_⟩
  · rw [upd_ne (ne_of_none e n)]; exact e
  · rw [upd_ne (ne_of_none (h _ _ e) n)]; exact h _ _ e
  · rw [h1] at h2; cases h2
theorem Rep.grow {K : Fr} {R G H G' H' : Hp} {ρ : Ro} {σ : St} (r : Rep K R G H ρ σ) (g : Gr G H G' H') : Rep K R G' H' ρ σ := by
  refine ⟨r.len, r.subR.trans g.hh, g.gh, fun a o h => ?_, fun i s h => ?_, r.apart⟩
  · cases q : G' a with
    | none => rfl
    | some u =>
      have := g.fr a u (r.dis a o h) q
      rw [r.subR a o h] at this; cases this
  · have := r.slot i s h
    cases s with
    | un => trivial
    | dat d => obtain ⟨v, e, x⟩ := this; exact ⟨v, e, Dq_mono g.gg x⟩
    | scr ns => obtain ⟨a, e, x⟩ := this; exact ⟨a, e, g.gg.seq x⟩
    | own c =>
      obtain ⟨p, ho, e, hp, gp, rp, x⟩ := this
      refine ⟨p, ho, e, g.hh _ _ hp, ?_, rp, OwOk_mono g.gg x⟩
      cases q : G' p with
      | none => rfl
      | some u =>
        have := g.fr p u gp q
        rw [hp] at this; cases this
/-- a slot is set to data -/
theorem Rep.setD {K : Fr} {R G H : Hp} {ρ : Ro} {σ : St} {i : Nat} {v : V} {d : D} (r : Rep K R G H ρ σ) (hd : Dq K G v d) : Rep K R G H (ρ.set i (.dat d)) (σ.set i (some v)) := by
  refine ⟨by simpa using r.len, r.subR, r.subG, r.dis, fun j s h => ?_, fun j k c c' p h1 h2 h3 h4 => ?_⟩
  · by_cases hj : i = j
    · subst hj
      rw [List.getElem?_set] at h
      simp only [if_true] at h
      split at h
      · rename_i hl
        cases h
        rw [List.getElem?_set_self (by rw [← r.len]; exact hl)]
        exact ⟨v, rfl, hd⟩
      · cases h
    · rw [List.getElem?_set_ne hj] at h
      rw [List.getElem?_set_ne hj]
      exact r.slot j s h
  · have hj : i ≠ j := fun e => by
      subst e
      rw [List.getElem?_set] at h1
      simp only [if_true] at h1
      split at h1 <;> cases h1
    have hk : i ≠ k := fun e => by
      subst e
      rw [List.getElem?_set] at h2
      simp only [if_true] at h2
      split at h2 <;> cases h2
    rw [List.getElem?_set_ne hj] at h1 h3
    rw [List.getElem?_set_ne hk] at h2 h4
    exact r.apart j k c c' p h1 h2 h3 h4
/-- a slot is forgotten -/
theorem Rep.forget {K : Fr} {R G H : Hp} {ρ : Ro} {σ : St} (r : Rep K R G H ρ σ) (i : Nat) (o : Option V) : Rep K R G H (ρ.set i .un) (σ.set i o) := by
  refine ⟨by simpa using r.len, r.subR, r.subG, r.dis, fun j s h => ?_, fun j k c c' p h1 h2 h3 h4 => ?_⟩
  · by_cases hj : i = j
    · subst hj
      rw [List.getElem?_set] at h
      simp only [if_true] at h
      split at h
      · cases h; trivial
      · cases h
    · rw [List.getElem?_set_ne hj] at h
      rw [List.getElem?_set_ne hj]
      exact r.slot j s h
  · have hj : i ≠ j := fun e => by
      subst e
      rw [List.getElem?_set] at h1
      simp only [if_true] at h1
      split at h1 <;> cases h1
    have hk : i ≠ k := fun e => by
      subst e
      rw [List.getElem?_set] at h2
      simp only [if_true] at h2
      split at h2 <;> cases h2
    rw [List.getElem?_set_ne hj] at h1 h3
    rw [List.getElem?_set_ne hk] at h2 h4
    exact r.apart j k c c' p h1 h2 h3 h4
/-- only the knowledge is dropped -/
theorem Rep.forgetR {K : Fr} {R G H : Hp} {ρ : Ro} {σ : St} (r : Rep K R G H ρ σ) (i : Nat) : Rep K R G H (ρ.set i .un) σ := by
  refine ⟨by simpa using r.len, r.subR, r.subG, r.dis, fun j s h => ?_, fun j k c c' p h1 h2 h3 h4 => ?_⟩
  · by_cases hj : i = j
    · subst hj
      rw [List.getElem?_set] at h
      simp only [if_true] at h
      split at h
      · cases h; trivial
      · cases h
    · rw [List.getElem?_set_ne hj] at h
      exact r.slot j s h
  · have hj : i ≠ j := fun e => by
      subst e
      rw [List.getElem?_set] at h1
      simp only [if_true] at h1
      split at h1 <;> cases h1
    have hk : i ≠ k := fun e => by
      subst e
      rw [List.getElem?_set] at h2
      simp only [if_true] at h2
      split at h2 <;> cases h2
    rw [List.getElem?_set_ne hj] at h1
    rw [List.getElem?_set_ne hk] at h2
    exact r.apart j k c c' p h1 h2 h3 h4
/-- an own list becomes data -/
theorem Rep.freeze {K : Fr} {R G H : Hp} {ρ : Ro} {σ : St} {i : Nat} {ds : List D} (r : Rep K R G H ρ σ) (h : ρ[i]? = some (.own (.lst ds))) :
    ∃ p vs, σ[i]? = some (some (.ref p)) ∧ Same G (upd G p (.lst vs)) ∧ Rep K R (upd G p (.lst vs)) H (ρ.set i (.dat (.list ds))) σ ∧ Dq K (upd G p (.lst vs)) (.ref p) (.list ds) := by
  obtain ⟨p, ho, e, hp, gp, rp, x⟩ := r.slot i _ h
  cases ho <;> try exact x.elim
  rename_i vs
  have gg : Same G (upd G p (.lst vs)) := fun b o q => by rw [upd_ne (ne_of_none q gp)]; exact q
  have hd : Dq K (upd G p (.lst vs)) (.ref p) (.list ds) := .lst upd_same (DqAll_mono gg x)
  refine ⟨p, vs, e, gg, ⟨by simpa using r.len, r.subR, fun b o q => ?_, fun a o q => ?_, fun j s hj => ?_, fun j k c c' q h1 h2 h3 h4 => ?_⟩, hd⟩
  · by_cases hb : b = p
    · subst hb; rw [upd_same] at q; cases q; exact hp
    · rw [upd_ne hb] at q; exact r.subG _ _ q
  · have : a ≠ p := fun z => by subst z; rw [rp] at q; cases q
    rw [upd_ne this]
    exact r.dis a o q
  · by_cases hij : i = j
    · subst hij
      rw [List.getElem?_set] at hj
      simp only [if_true] at hj
      split at hj
      · cases hj; exact ⟨.ref p, e, hd⟩
      · cases hj
    · rw [List.getElem?_set_ne hij] at hj
      have := r.slot j s hj
      cases s with
      | un => trivial
      | dat d => obtain ⟨v, e, x⟩ := this; exact ⟨v, e, Dq_mono gg x⟩
      | scr ns => obtain ⟨a, e, x⟩ := this; exact ⟨a, e, gg.seq x⟩
      | own c =>
        obtain ⟨q, ho, eq, hq, gq, rq, xq⟩ := this
        have : q ≠ p := fun z => by
          subst z
          exact hij (r.apart i j _ _ _ h hj e eq)
        exact ⟨q, ho, eq, hq, by rw [upd_ne this]; exact gq, rq, OwOk_mono gg xq⟩
  · have hj : i ≠ j := fun e => by
      subst e
      rw [List.getElem?_set] at h1
      simp only [if_true] at h1
      split at h1 <;> cases h1
    have hk : i ≠ k := fun e => by
      subst e
      rw [List.getElem?_set] at h2
      simp only [if_true] at h2
      split at h2 <;> cases h2
    rw [List.getElem?_set_ne hj] at h1
    rw [List.getElem?_set_ne hk] at h2
    exact r.apart j k c c' q h1 h2 h3 h4
/-- an own object is changed -/
theorem Rep.write {K : Fr} {R G H : Hp} {ρ : Ro} {σ : St} {i : Nat} {c c' : Ow} {p : Addr} {ho : HO} (r : Rep K R G H ρ σ) (h : ρ[i]? = some (.own c)) (e : σ[i]? = some (some (.ref p))) (hc : OwOk K G c' ho) :
    Rep K R G (upd H p ho) (ρ.set i (.own c')) σ := by
  obtain ⟨p', ho', e', hp, gp, rp, x⟩ := r.slot i _ h
  rw [e] at e'
  cases e'
  have hi : i < ρ.length := (List.getElem?_eq_some_iff.mp h).1
  have key : ∀ (j : Nat) (s : Sl), i ≠ j → ρ[j]? = some s → SlOk K R G (upd H p ho) s σ[j]? := fun j s hij hj => by
    have := r.slot j s hj
    cases s with
    | un => trivial
    | dat d => exact this
    | scr ns => exact this
    | own c =>
      obtain ⟨q, hq', eq, hq, gq, rq, xq⟩ := this
      have : q ≠ p := fun z => by
        subst z
        exact hij (r.apart i j _ _ _ h hj e eq)
      exact ⟨q, hq', eq, by rw [upd_ne this]; exact hq, gq, rq, xq⟩
  have own : ∀ (j : Nat) (c1 : Ow), (ρ.set i (.own c'))[j]? = some (.own c1) → ∃ c2, ρ[j]? = some (.own c2) := fun j c1 hj => by
    by_cases hij : i = j
    · subst hij; exact ⟨c, h⟩
    · rw [List.getElem?_set_ne hij] at hj; exact ⟨c1, hj⟩
  refine ⟨by simpa using r.len, fun b o q => ?_, fun b o q => ?_, r.dis, fun j s hj => ?_, fun j k c1 c2 q h1 h2 h3 h4 => ?_⟩
  · have : b ≠ p := fun z => by subst z; rw [rp] at q; cases q
    rw [upd_ne this]; exact r.subR _ _ q
  · have : b ≠ p := fun z => by subst z; rw [gp] at q; cases q
    rw [upd_ne this]; exact r.subG _ _ q
  · by_cases hij : i = j
    · subst hij
      rw [List.getElem?_set_self hi] at hj
      cases hj
      exact ⟨p, ho, e, upd_same, gp, rp, hc⟩
    · rw [List.getElem?_set_ne hij] at hj
      exact key j s hij hj
  · obtain ⟨d1, g1⟩ := own j c1 h1
    obtain ⟨d2, g2⟩ := own k c2 h2
    exact r.apart j k d1 d2 q g1 g2 h3 h4

/-! ### the judgements -/
abbrev M (α : Type) := Ro → Option (α × Ro)
def tM (K : Fr) (m : M D) : TE := fun σ H Q => ∃ R G ρ d ρ', Rep K R G H ρ σ ∧ m ρ = some (d, ρ') ∧ ∀ G' H' v, Same G G' → Rep K R G' H' ρ' σ → Dq K G' v d → Q v H'
def tMT (K : Fr) (m : M Bool) : TT := fun σ H Q => ∃ R G ρ b ρ', Rep K R G H ρ σ ∧ m ρ = some (b, ρ') ∧ ∀ G' H', Same G G' → Rep K R G' H' ρ' σ → Q b H'
def tMA (K : Fr) (m : M (List D)) : TA := fun σ H Q => ∃ R G ρ ds ρ', Rep K R G H ρ σ ∧ m ρ = some (ds, ρ') ∧ ∀ G' H' vs, Same G G' → Rep K R G' H' ρ' σ → DqAll K G' vs ds → Q vs H'
inductive Fl where
  | nx | bk | ct
  | rt (d : D)
abbrev MS := M Fl
/-- but for the slots W all is as it was -/
def Frm (W : List Nat) (σ σ' : St) : Prop := ∀ j : Nat, j ∉ W → σ'[j]? = σ[j]?
theorem Frm.refl (W : List Nat) (σ : St) : Frm W σ σ := fun _ _ => rfl
theorem Frm.trans {W V : List Nat} {σ σ1 σ2 : St} (a : Frm W σ σ1) (b : Frm V σ1 σ2) : Frm (W ++ V) σ σ2 := fun j hj => by
  rw [b j fun z => hj (List.mem_append_right _ z), a j fun z => hj (List.mem_append_left _ z)]
theorem Frm.mono {W V : List Nat} {σ σ1 : St} (a : Frm W σ σ1) (h : ∀ j ∈ W, j ∈ V) : Frm V σ σ1 := fun j hj => a j fun z => hj (h j z)
def flQ (K : Fr) (R G : Hp) (E : Ends) (σ : St) (W : List Nat) (ρ' : Ro) : Fl → Prop
  | .nx => ∀ G' H' σ', Same G G' → Rep K R G' H' ρ' σ' → Frm W σ σ' → E.nx σ' H'
  | .bk => ∀ G' H' σ', Same G G' → Rep K R G' H' ρ' σ' → Frm W σ σ' → E.bk σ' H'
  | .ct => ∀ G' H' σ', Same G G' → Rep K R G' H' ρ' σ' → Frm W σ σ' → E.ct σ' H'
  | .rt d => ∀ G' H' σ' v, Same G G' → Rep K R G' H' ρ' σ' → Frm W σ σ' → Dq K G' v d → E.rt v H'
def tMS (K : Fr) (W : List Nat) (m : MS) : TS := fun E σ H => ∃ R G ρ f ρ', Rep K R G H ρ σ ∧ m ρ = some (f, ρ') ∧ flQ K R G E σ W ρ' f
/-- a target: vs the slots that it sets -/
def tMG (K : Fr) (vs : List Nat) (f : D → Ro → Option Ro) : TG := fun v σ H Q => ∃ R G ρ d ρ', Rep K R G H ρ σ ∧ Dq K G v d ∧ f d ρ = some ρ' ∧ ∀ σ', Rep K R G H ρ' σ' → σ'.length = σ.length → (∀ j : Nat, j ∉ vs → σ'[j]? = σ[j]?) → Q σ' H
/-- what walks over the data xs -/
structure WalkD (K : Fr) (J : It) (G : Hp) (xs : List D) : Prop where
  go : ∀ (i : Nat) G' H, Same G G' → Same G' H → i < xs.length → J.go i H
  stop : ∀ (i : Nat) G' H, Same G G' → Same G' H → xs.length ≤ i → J.stop i H
  yld : ∀ (i : Nat) G' H v H' (d : D), Same G G' → Same G' H → xs[i]? = some d → J.yld i H v H' → ∃ G'', Gr G' H G'' H' ∧ Dq K G'' v d
def tMI (K : Fr) (m : M (List D)) : TI := fun σ H Q => ∃ R G ρ xs ρ', Rep K R G H ρ σ ∧ m ρ = some (xs, ρ') ∧ ∀ G' H' J, Same G G' → Rep K R G' H' ρ' σ → WalkD K J G' xs → Q J H'

theorem PE.imp {X : Cx} {e : Expr} {t t' : TE} (h : PE X e t) (w : ∀ σ H Q, t' σ H Q → t σ H Q) : PE X e t' := ⟨fun pins s σ H Q I q => h.run pins s σ H Q I (w σ H Q q)⟩
theorem PT.imp {X : Cx} {e : Expr} {t t' : TT} (h : PT X e t) (w : ∀ σ H Q, t' σ H Q → t σ H Q) : PT X e t' := ⟨fun pins s σ H Q I q => h.run pins s σ H Q I (w σ H Q q)⟩
theorem PA.imp {X : Cx} {e : List Expr} {t t' : TA} (h : PA X e t) (w : ∀ σ H Q, t' σ H Q → t σ H Q) : PA X e t' := ⟨fun pos pins s σ H Q I q => h.run pos pins s σ H Q I (w σ H Q q)⟩
theorem PS.imp {X : Cx} {e : Stmt} {t t' : TS} (h : PS X e t) (w : ∀ E σ H, t' E σ H → t E σ H) : PS X e t' := ⟨fun pins s σ H E I q => h.run pins s σ H E I (w E σ H q)⟩
theorem PSs.imp {X : Cx} {e : List Stmt} {t t' : TS} (h : PSs X e t) (w : ∀ E σ H, t' E σ H → t E σ H) : PSs X e t' := ⟨fun pins s σ H E I q => h.run pins s σ H E I (w E σ H q)⟩
theorem PG.imp {X : Cx} {e : Expr} {t t' : TG} (h : PG X e t) (w : ∀ v σ H Q, t' v σ H Q → t v σ H Q) : PG X e t' := ⟨fun pins s σ H v u Q I r q => h.run pins s σ H v u Q I r (w v σ H Q q)⟩
theorem PI.imp {X : Cx} {tg e : Expr} {t t' : TI} (h : PI X tg e t) (w : ∀ σ H Q, t' σ H Q → t σ H Q) : PI X tg e t' := ⟨fun pins s σ H Q I q => h.run pins s σ H Q I (w σ H Q q)⟩
theorem PW.imp {X : Cx} {e : Expr} {t t' : TT} (h : PW X e t) (w : ∀ σ H Q, t' σ H Q → t σ H Q) : PW X e t' := ⟨fun wh pins s σ H Q I q => h.run wh pins s σ H Q I (w σ H Q q)⟩
abbrev QE (X : Cx) (e : Expr) (m : M D) : Prop := PE X e (tM X.K m)
abbrev QT (X : Cx) (e : Expr) (m : M Bool) : Prop := PT X e (tMT X.K m)
abbrev QW (X : Cx) (e : Expr) (m : M Bool) : Prop := PW X e (tMT X.K m)
abbrev QA (X : Cx) (e : List Expr) (m : M (List D)) : Prop := PA X e (tMA X.K m)
abbrev QS (X : Cx) (W : List Nat) (e : Stmt) (m : MS) : Prop := PS X e (tMS X.K W m)
abbrev QSs (X : Cx) (W : List Nat) (e : List Stmt) (m : MS) : Prop := PSs X e (tMS X.K W m)
abbrev QG (X : Cx) (vs : List Nat) (e : Expr) (f : D → Ro → Option Ro) : Prop := PG X e (tMG X.K vs f)
abbrev QI (X : Cx) (tg e : Expr) (m : M (List D)) : Prop := PI X tg e (tMI X.K m)
end QL
set_option Elab.async false
set_option linter.all false
set_option maxRecDepth 100000
set_option maxHeartbeats 1000000
namespace QL
open PySem PySem.Spec PyProof.Rows L2

/-! ### functions on data -/
def eVar (i : Nat) : M D := fun ρ => match ρ[i]? with
  | some (.dat d) => some (d, ρ)
  | some (.own (.lst ds)) => some (.list ds, ρ.set i (.dat (.list ds)))
  | _ => none
def eC (d : D) : M D := fun ρ => some (d, ρ)
def eOp2 (f : D → D → Option D) (a b : M D) : M D := fun ρ => (a ρ).bind fun p => (b p.2).bind fun q => (f p.1 q.1).map fun z => (z, q.2)
def eOp1 (f : D → Option D) (a : M D) : M D := fun ρ => (a ρ).bind fun p => (f p.1).map fun z => (z, p.2)
def aNil : M (List D) := fun ρ => some ([], ρ)
def aCons (a : M D) (r : M (List D)) : M (List D) := fun ρ => (a ρ).bind fun p => (r p.2).map fun q => (p.1 :: q.1, q.2)
def eApp (f : List D → Option D) (as : M (List D)) : M D := fun ρ => (as ρ).bind fun p => (f p.1).map fun z => (z, p.2)
def asB : D → Option Bool
  | .bool b => some b
  | _ => none
def cV (a : M D) : M Bool := fun ρ => (a ρ).bind fun p => (asB p.1).map fun b => (b, p.2)
def cAnd (a b : M Bool) : M Bool := fun ρ => (a ρ).bind fun p => if p.1 = true then b p.2 else some (false, p.2)
def cOr (a b : M Bool) : M Bool := fun ρ => (a ρ).bind fun p => if p.1 = true then some (true, p.2) else b p.2
def cNot (a : M Bool) : M Bool := fun ρ => (a ρ).map fun p => (!p.1, p.2)
def eIf (c : M Bool) (a b : M D) : M D := fun ρ => (c ρ).bind fun p => if p.1 = true then a p.2 else b p.2
def eAnd (a b : M D) : M D := fun ρ => (a ρ).bind fun p => (asB p.1).bind fun c => if c = true then b p.2 else some (.bool false, p.2)
def eOr (a b : M D) : M D := fun ρ => (a ρ).bind fun p => (asB p.1).bind fun c => if c = true then some (.bool true, p.2) else b p.2
def eNot (a : M D) : M D := fun ρ => (a ρ).bind fun p => (asB p.1).map fun c => (.bool (!c), p.2)
def eChain (f g : D → D → Option D) (a b c : M D) : M D := fun ρ => (a ρ).bind fun p => (b p.2).bind fun q => (f p.1 q.1).bind fun z => (asB z).bind fun k =>
  if k = true then (c q.2).bind fun r => (g q.1 r.1).map fun z => (z, r.2) else some (.bool false, q.2)

/-! ### rules: names, constants -/
section
variable {X : Cx} {e a b c : Expr} {es : List Expr} {pos : Pos}
theorem qe_var (i : Nat) {x : Str} (hN : X.N[i]? = some x := by rfl) (hv : Vis X.env.scope x := by first | exact Or.inl rfl | exact Or.inr (Or.inl rfl) | exact Or.inr (Or.inr rfl)) (hd : (x == ("__debug__" : Str)) = false := by decide)
    (hcd : (x == ("__classdict__" : Str)) = false := by decide) : QE X (.Name x pos) (eVar i) := by
  refine PE.imp (pe_var hN hv hd hcd) fun σ H Q h => ?_
  obtain ⟨R, G, ρ, d, ρ', r, e, k⟩ := h
  unfold eVar at e
  split at e
  · rename_i d' hs
    cases e
    obtain ⟨v, e, x⟩ := r.slot i _ hs
    exact ⟨v, e, k G H v (.refl _) r x⟩
  · rename_i ds hs
    cases e
    obtain ⟨p, vs, e, gg, r', x⟩ := r.freeze hs
    exact ⟨.ref p, e, k _ H _ gg r' x⟩
  · cases e
theorem qe_const {v : V} {d : D} (h : PE X e (tC v)) (hd : ∀ G, Dq X.K G v d) : QE X e (eC d) := by
  refine PE.imp h fun σ H Q h => ?_
  obtain ⟨R, G, ρ, d', ρ', r, e, k⟩ := h
  cases e
  exact k G H v (.refl _) r (hd G)
theorem qe_int {i : Int} {j} : QE X (.Constant (.int i) j pos) (eC (.int i)) := qe_const pe_int fun _ => .int _
theorem qe_bl {i : Bool} {j} : QE X (.Constant (.bool i) j pos) (eC (.bool i)) := qe_const pe_bl fun _ => .bl _
theorem qe_str {i : Str} {j} : QE X (.Constant (.str i) j pos) (eC (.str i)) := qe_const pe_str fun _ => .str _
theorem qe_non {j} : QE X (.Constant .none j pos) (eC .none) := qe_const pe_non fun _ => .non
/-- a constant of the module -/
def GlobD (K : Fr) (mg : Str → Option Value) (x : Str) (d : D) : Prop := ∃ v u, mg x = some u ∧ RelV v u ∧ ∀ G, Dq K G v d
theorem qe_glob {x : Str} {d : D} (g : GlobD X.K X.mg x d) (hg : Gl X x := by rfl) (hd : (x == ("__debug__" : Str)) = false := by decide) : QE X (.Name x pos) (eC d) := by
  obtain ⟨v, u, hm, r, h⟩ := g
  exact qe_const (pe_glob hg hm r hd) h

/-! ### operators -/
/-- a two-place operation, on data -/
def OpD (K : Fr) (r : R2) (f : D → D → Option D) : Prop := ∀ (G H : Hp) (x y : V) (dx dy d : D) (Q : VK), Same G H → Dq K G x dx → Dq K G y dy → f dx dy = some d → (∀ G' H' v, Gr G H G' H' → Dq K G' v d → Q v H') → r x y H Q
theorem bind2 {m : M D} {n : M D} {α : Type} {f : D → D → Option α} {ρ : Ro} {z : α} {ρ2 : Ro} (h : ((m ρ).bind fun p => (n p.2).bind fun q => (f p.1 q.1).map fun z => (z, q.2)) = some (z, ρ2)) :
    ∃ x ρ1 y, m ρ = some (x, ρ1) ∧ n ρ1 = some (y, ρ2) ∧ f x y = some z := by
  rw [Option.bind_eq_some_iff] at h
  obtain ⟨⟨x, ρ1⟩, h1, h⟩ := h
  rw [Option.bind_eq_some_iff] at h
  obtain ⟨⟨y, ρ3⟩, h2, h⟩ := h
  rw [Option.map_eq_some_iff] at h
  obtain ⟨w, h3, h⟩ := h
  cases h
  exact ⟨x, ρ1, y, h1, h2, h3⟩
theorem tOp_of {K : Fr} {r : R2} {f : D → D → Option D} {m n : M D} (hr : OpD K r f) {σ : St} {H : Hp} {Q : VK} (h : tM K (eOp2 f m n) σ H Q) : tOp r (tM K m) (tM K n) σ H Q := by
  obtain ⟨R, G, ρ, d, ρ', rp, e, k⟩ := h
  obtain ⟨x, ρ1, y, h1, h2, h3⟩ := bind2 e
  refine ⟨R, G, ρ, x, ρ1, rp, h1, fun G1 H1 v1 s1 r1 d1 => ?_⟩
  refine ⟨R, G1, ρ1, y, ρ', r1, h2, fun G2 H2 v2 s2 r2 d2 => ?_⟩
  exact hr G2 H2 v1 v2 x y d Q r2.subG (Dq_mono s2 d1) d2 h3 fun G3 H3 v3 g3 d3 => k G3 H3 v3 ((s1.trans s2).trans g3.gg) (r2.grow g3) d3
theorem qe_op {op : Operator} {r : R2} {f : D → D → Option D} {m n : M D} (ho : OpR X (binaryOp op) r) (hd : OpD X.K r f) (ha : QE X a m) (hb : QE X b n) : QE X (.BinOp a op b pos) (eOp2 f m n) :=
  PE.imp (pe_op ho ha hb) fun _ _ _ h => tOp_of hd h
theorem qe_cmp {op : CmpOp} {r : R2} {f : D → D → Option D} {m n : M D} (ho : OpR X (compareOp op) r) (hd : OpD X.K r f) (ha : QE X a m) (hb : QE X b n) (hm : behindInMarks op b = false := by first | exact nomark _ | rfl | (with_unfolding_all rfl)) : QE X (.Compare a [op] [b] pos) (eOp2 f m n) :=
  PE.imp (pe_cmpR ho ha hb hm) fun _ _ _ h => tOp_of hd h
theorem tM_cV {K : Fr} {m : M D} {σ : St} {H : Hp} {Q : Bool → Hp → Prop} (h : tMT K (cV m) σ H Q) : tM K m σ H fun x H' => ∃ k, x = .bl k ∧ Q k H' := by
  obtain ⟨R, G, ρ, b, ρ', rp, e, k⟩ := h
  unfold cV at e
  rw [Option.bind_eq_some_iff] at e
  obtain ⟨⟨x, ρ1⟩, h1, e⟩ := e
  rw [Option.map_eq_some_iff] at e
  obtain ⟨w, h3, e⟩ := e
  cases e
  refine ⟨R, G, ρ, x, ρ1, rp, h1, fun G1 H1 v1 s1 r1 d1 => ?_⟩
  cases x <;> cases h3
  cases d1
  exact ⟨_, rfl, k G1 H1 s1 r1⟩
/-- monotone in the end -/
theorem tM_mono {K : Fr} {m : M D} {σ : St} {H : Hp} {Q Q' : VK} (h : tM K m σ H Q) (w : ∀ v H, Q v H → Q' v H) : tM K m σ H Q' := by
  obtain ⟨R, G, ρ, b, ρ', rp, e, k⟩ := h
  exact ⟨R, G, ρ, b, ρ', rp, e, fun G' H' v s r d => w _ _ (k G' H' v s r d)⟩
theorem qt_cmp {op : CmpOp} {r : R2} {f : D → D → Option D} {m n : M D} (ho : OpR X (compareOp op) r) (hd : OpD X.K r f) (ha : QE X a m) (hb : QE X b n) (hm : behindInMarks op b = false := by first | exact nomark _ | rfl | (with_unfolding_all rfl)) : QT X (.Compare a [op] [b] pos) (cV (eOp2 f m n)) :=
  PT.imp (pt_cmpR ho ha hb hm) fun _ _ _ h => tOp_of hd (tM_cV h)
theorem qt_val {m : M D} (ha : QE X a m) (he : ∀ whole, isTrue a X.env whole = (do let v ← whole; standAt a.pos; holding [v] (truthy v)) := by intro _; rfl) : QT X a (cV m) :=
  PT.imp (pt_val ha he) fun _ _ _ h => tM_cV h
theorem tChain_of {K : Fr} {r r' : R2} {f g : D → D → Option D} {m n l : M D} (hr : OpD K r f) (hr' : OpD K r' g) {σ : St} {H : Hp} {Q : VK} (h : tM K (eChain f g m n l) σ H Q) : tChain r r' (tM K m) (tM K n) (tM K l) σ H Q := by
  obtain ⟨R, G, ρ, d, ρ', rp, e, k⟩ := h
  unfold eChain at e
  rw [Option.bind_eq_some_iff] at e
  obtain ⟨⟨x, ρ1⟩, h1, e⟩ := e
  rw [Option.bind_eq_some_iff] at e
  obtain ⟨⟨y, ρ2⟩, h2, e⟩ := e
  rw [Option.bind_eq_some_iff] at e
  obtain ⟨z, h3, e⟩ := e
  rw [Option.bind_eq_some_iff] at e
  obtain ⟨t, h4, e⟩ := e
  refine ⟨R, G, ρ, x, ρ1, rp, h1, fun G1 H1 v1 s1 r1 d1 => ?_⟩
  refine ⟨R, G1, ρ1, y, ρ2, r1, h2, fun G2 H2 v2 s2 r2 d2 => ?_⟩
  refine hr G2 H2 v1 v2 x y z _ r2.subG (Dq_mono s2 d1) d2 h3 fun G3 H3 v3 g3 d3 => ?_
  cases z <;> cases h4
  cases d3
  refine ⟨_, rfl, ?_⟩
  have r3 := r2.grow g3
  cases t with
  | true =>
    rw [if_pos rfl] at e ⊢
    rw [Option.bind_eq_some_iff] at e
    obtain ⟨⟨u, ρ4⟩, h5, e⟩ := e
    rw [Option.map_eq_some_iff] at e
    obtain ⟨w, h6, e⟩ := e
    cases e
    refine ⟨R, G3, ρ2, u, _, r3, h5, fun G4 H4 v4 s4 r4 d4 => ?_⟩
    exact hr' G4 H4 v2 v4 y u _ Q r4.subG (Dq_mono (g3.gg.trans s4) d2) d4 h6 fun G5 H5 v5 g5 d5 => k G5 H5 v5 ((((s1.trans s2).trans g3.gg).trans s4).trans g5.gg) (r4.grow g5) d5
  | false =>
    rw [if_neg Bool.false_ne_true] at e ⊢
    cases e
    exact k G3 H3 _ ((s1.trans s2).trans g3.gg) r3 (.bl _)
theorem qe_chain {op op' : CmpOp} {r r' : R2} {f g : D → D → Option D} {m n l : M D} (ho : OpR X (compareOp op) r) (ho' : OpR X (compareOp op') r') (hr : OpD X.K r f) (hr' : OpD X.K r' g) (ha : QE X a m) (hb : QE X b n) (hc : QE X c l)
    (hm : lastMarks [op, op'] [b, c] = false := by with_unfolding_all rfl) : QE X (.Compare a [op, op'] [b, c] pos) (eChain f g m n l) :=
  PE.imp (pe_chain ho ho' ha hb hc hm) fun _ _ _ h => tChain_of hr hr' h
theorem qt_chain {op op' : CmpOp} {r r' : R2} {f g : D → D → Option D} {m n l : M D} (ho : OpR X (compareOp op) r) (ho' : OpR X (compareOp op') r') (hr : OpD X.K r f) (hr' : OpD X.K r' g) (ha : QE X a m) (hb : QE X b n) (hc : QE X c l)
    (hm : lastMarks [op, op'] [b, c] = false := by with_unfolding_all rfl) : QT X (.Compare a [op, op'] [b, c] pos) (cV (eChain f g m n l)) :=
  PT.imp (pt_chain ho ho' ha hb hc hm) fun _ _ _ h => tChain_of hr hr' (tM_cV h)

/-! ### and, or, not, if -/
theorem tAnd_of {K : Fr} {m n : M Bool} {σ : St} {H : Hp} {Q : Bool → Hp → Prop} (h : tMT K (cAnd m n) σ H Q) : tAnd (tMT K m) (tMT K n) σ H Q := by
  obtain ⟨R, G, ρ, d, ρ', rp, e, k⟩ := h
  unfold cAnd at e
  rw [Option.bind_eq_some_iff] at e
  obtain ⟨⟨x, ρ1⟩, h1, e⟩ := e
  refine ⟨R, G, ρ, x, ρ1, rp, h1, fun G1 H1 s1 r1 => ?_⟩
  cases x with
  | true =>
    rw [if_pos rfl] at e ⊢
    exact ⟨R, G1, ρ1, d, ρ', r1, e, fun G2 H2 s2 r2 => k G2 H2 (s1.trans s2) r2⟩
  | false =>
    rw [if_neg Bool.false_ne_true] at e ⊢
    cases e
    exact k G1 H1 s1 r1
theorem tOr_of {K : Fr} {m n : M Bool} {σ : St} {H : Hp} {Q : Bool → Hp → Prop} (h : tMT K (cOr m n) σ H Q) : tOr (tMT K m) (tMT K n) σ H Q := by
  obtain ⟨R, G, ρ, d, ρ', rp, e, k⟩ := h
  unfold cOr at e
  rw [Option.bind_eq_some_iff] at e
  obtain ⟨⟨x, ρ1⟩, h1, e⟩ := e
  refine ⟨R, G, ρ, x, ρ1, rp, h1, fun G1 H1 s1 r1 => ?_⟩
  cases x with
  | true =>
    rw [if_pos rfl] at e ⊢
    cases e
    exact k G1 H1 s1 r1
  | false =>
    rw [if_neg Bool.false_ne_true] at e ⊢
    exact ⟨R, G1, ρ1, d, ρ', r1, e, fun G2 H2 s2 r2 => k G2 H2 (s1.trans s2) r2⟩
variable {rest : List Expr} {m n : M Bool}
theorem qw_and1 (ha : QT X a m) : QW X (.BoolOp .And [a] pos) m := pw_and1 ha
theorem qw_or1 (ha : QT X a m) : QW X (.BoolOp .Or [a] pos) m := pw_or1 ha
theorem qw_and (ha : QT X a m) (hb : QW X (.BoolOp .And (b :: rest) pos) n) : QW X (.BoolOp .And (a :: b :: rest) pos) (cAnd m n) := PW.imp (pw_and ha hb) fun _ _ _ h => tAnd_of h
theorem qw_or (ha : QT X a m) (hb : QW X (.BoolOp .Or (b :: rest) pos) n) : QW X (.BoolOp .Or (a :: b :: rest) pos) (cOr m n) := PW.imp (pw_or ha hb) fun _ _ _ h => tOr_of h
theorem qw_pt (ha : QW X a m) : QT X a m := PW.pt ha
theorem qt_not (ha : QT X a m) : QT X (.UnaryOp .Not a pos) (cNot m) := by
  refine PT.imp (pt_not ha) fun σ H Q h => ?_
  obtain ⟨R, G, ρ, d, ρ', rp, e, k⟩ := h
  unfold cNot at e
  rw [Option.map_eq_some_iff] at e
  obtain ⟨⟨x, ρ1⟩, h1, e⟩ := e
  cases e
  exact ⟨R, G, ρ, x, _, rp, h1, fun G1 H1 s1 r1 => k G1 H1 s1 r1⟩
theorem qe_if {u v : M D} (hc : QT X c m) (ha : QE X a u) (hb : QE X b v) : QE X (.IfExp c a b pos) (eIf m u v) := by
  refine PE.imp (pe_ifExp hc ha hb) fun σ H Q h => ?_
  obtain ⟨R, G, ρ, d, ρ', rp, e, k⟩ := h
  unfold eIf at e
  rw [Option.bind_eq_some_iff] at e
  obtain ⟨⟨x, ρ1⟩, h1, e⟩ := e
  refine ⟨R, G, ρ, x, ρ1, rp, h1, fun G1 H1 s1 r1 => ?_⟩
  cases x with
  | true =>
    rw [if_pos rfl] at e ⊢
    exact ⟨R, G1, ρ1, d, ρ', r1, e, fun G2 H2 v s2 r2 => k G2 H2 v (s1.trans s2) r2⟩
  | false =>
    rw [if_neg Bool.false_ne_true] at e ⊢
    exact ⟨R, G1, ρ1, d, ρ', r1, e, fun G2 H2 v s2 r2 => k G2 H2 v (s1.trans s2) r2⟩
theorem qe_one {op} {u : M D} (ha : QE X a u) : QE X (.BoolOp op [a] pos) u := pe_one ha
theorem qe_and {u v : M D} (ha : QE X a u) (hb : QE X (.BoolOp .And (b :: rest) pos) v) : QE X (.BoolOp .And (a :: b :: rest) pos) (eAnd u v) := by
  refine PE.imp (pe_and ha hb) fun σ H Q h => ?_
  obtain ⟨R, G, ρ, d, ρ', rp, e, k⟩ := h
  unfold eAnd at e
  rw [Option.bind_eq_some_iff] at e
  obtain ⟨⟨x, ρ1⟩, h1, e⟩ := e
  rw [Option.bind_eq_some_iff] at e
  obtain ⟨t, h4, e⟩ := e
  refine ⟨R, G, ρ, x, ρ1, rp, h1, fun G1 H1 v1 s1 r1 d1 => ?_⟩
  cases x <;> cases h4
  cases d1
  refine ⟨_, rfl, ?_⟩
  cases t with
  | true =>
    rw [if_pos rfl] at e ⊢
    exact ⟨R, G1, ρ1, d, ρ', r1, e, fun G2 H2 v s2 r2 => k G2 H2 v (s1.trans s2) r2⟩
  | false =>
    rw [if_neg Bool.false_ne_true] at e ⊢
    cases e
    exact k G1 H1 _ s1 r1 (.bl _)
theorem qe_or {u v : M D} (ha : QE X a u) (hb : QE X (.BoolOp .Or (b :: rest) pos) v) : QE X (.BoolOp .Or (a :: b :: rest) pos) (eOr u v) := by
  refine PE.imp (pe_or ha hb) fun σ H Q h => ?_
  obtain ⟨R, G, ρ, d, ρ', rp, e, k⟩ := h
  unfold eOr at e
  rw [Option.bind_eq_some_iff] at e
  obtain ⟨⟨x, ρ1⟩, h1, e⟩ := e
  rw [Option.bind_eq_some_iff] at e
  obtain ⟨t, h4, e⟩ := e
  refine ⟨R, G, ρ, x, ρ1, rp, h1, fun G1 H1 v1 s1 r1 d1 => ?_⟩
  cases x <;> cases h4
  cases d1
  refine ⟨_, rfl, ?_⟩
  cases t with
  | true =>
    rw [if_pos rfl] at e ⊢
    cases e
    exact k G1 H1 _ s1 r1 (.bl _)
  | false =>
    rw [if_neg Bool.false_ne_true] at e ⊢
    exact ⟨R, G1, ρ1, d, ρ', r1, e, fun G2 H2 v s2 r2 => k G2 H2 v (s1.trans s2) r2⟩
theorem qe_not {u : M D} (ha : QE X a u) : QE X (.UnaryOp .Not a pos) (eNot u) := by
  refine PE.imp (pe_not ha) fun σ H Q h => ?_
  obtain ⟨R, G, ρ, d, ρ', rp, e, k⟩ := h
  unfold eNot at e
  rw [Option.bind_eq_some_iff] at e
  obtain ⟨⟨x, ρ1⟩, h1, e⟩ := e
  rw [Option.map_eq_some_iff] at e
  obtain ⟨t, h4, e⟩ := e
  refine ⟨R, G, ρ, x, ρ1, rp, h1, fun G1 H1 v1 s1 r1 d1 => ?_⟩
  cases x <;> cases h4
  cases d1
  cases e
  exact ⟨_, rfl, k G1 H1 _ s1 r1 (.bl _)⟩
end

/-! ### argument lists, displays, calls -/
section
variable {X : Cx} {e : Expr} {es : List Expr} {pos p : Pos}
theorem qa_nil : QA X [] aNil := PA.imp pa_nil fun σ H Q h => by
  obtain ⟨R, G, ρ, d, ρ', rp, e, k⟩ := h
  cases e
  exact k G H [] (.refl _) rp .nil
theorem qa_cons {m : M D} {n : M (List D)} (ha : QE X e m) (hr : QA X es n) (hs : starEach (e :: es) X.env = (false, eval e X.env) :: starEach es X.env := by rfl) : QA X (e :: es) (aCons m n) := by
  refine PA.imp (pa_cons ha hr hs) fun σ H Q h => ?_
  obtain ⟨R, G, ρ, d, ρ', rp, e, k⟩ := h
  unfold aCons at e
  rw [Option.bind_eq_some_iff] at e
  obtain ⟨⟨x, ρ1⟩, h1, e⟩ := e
  rw [Option.map_eq_some_iff] at e
  obtain ⟨⟨y, ρ2⟩, h2, e⟩ := e
  cases e
  refine ⟨R, G, ρ, x, ρ1, rp, h1, fun G1 H1 v1 s1 r1 d1 => ?_⟩
  refine ⟨R, G1, ρ1, y, _, r1, h2, fun G2 H2 v2 s2 r2 d2 => ?_⟩
  exact k G2 H2 (v1 :: v2) (s1.trans s2) r2 (.cons (Dq_mono s2 d1) d2)
/-- a call by values, on data -/
def CallD (K : Fr) (r : List V → Hp → VK → Prop) (f : List D → Option D) : Prop := ∀ (G H : Hp) (vs : List V) (ds : List D) (d : D) (Q : VK), Same G H → DqAll K G vs ds → f ds = some d → (∀ G' H' v, Gr G H G' H' → Dq K G' v d → Q v H') → r vs H Q
theorem bindA {m : M (List D)} {f : List D → Option D} {ρ : Ro} {z : D} {ρ2 : Ro} (h : eApp f m ρ = some (z, ρ2)) : ∃ x, m ρ = some (x, ρ2) ∧ f x = some z := by
  unfold eApp at h
  rw [Option.bind_eq_some_iff] at h
  obtain ⟨⟨x, ρ1⟩, h1, h⟩ := h
  rw [Option.map_eq_some_iff] at h
  obtain ⟨w, h3, h⟩ := h
  cases h
  exact ⟨x, h1, h3⟩
theorem tApp_of {K : Fr} {r : List V → Hp → VK → Prop} {f : List D → Option D} {m : M (List D)} (hr : CallD K r f) {σ : St} {H : Hp} {Q : VK} (h : tM K (eApp f m) σ H Q) : tMA K m σ H fun vs H1 => r vs H1 Q := by
  obtain ⟨R, G, ρ, d, ρ', rp, e, k⟩ := h
  obtain ⟨x, h1, h2⟩ := bindA e
  refine ⟨R, G, ρ, x, ρ', rp, h1, fun G1 H1 v1 s1 r1 d1 => ?_⟩
  exact hr G1 H1 v1 x d Q r1.subG d1 h2 fun G3 H3 v3 g3 d3 => k G3 H3 v3 (s1.trans g3.gg) (r1.grow g3) d3
def mkTup (ds : List D) : Option D := if ds.length ≤ 1000000 then some (.tuple ds) else none
def mkLst (ds : List D) : Option D := if ds.length ≤ 1000000 then some (.list ds) else none
theorem size_of {n : Nat} (h : n ≤ 1000000) : n ≤ sizeLine := Nat.le_trans h (by decide)
theorem mkTup_ok {K : Fr} : CallD K (fun xs H1 Q => xs.length ≤ sizeLine ∧ ∀ p, H1 p = none → Q (.ref p) (upd H1 p (.tup xs))) mkTup := by
  intro G H vs ds d Q s h e k
  unfold mkTup at e
  split at e
  · rename_i hl
    cases e
    refine ⟨by rw [h.length]; exact size_of hl, fun p hp => k _ _ _ (Gr.new s hp) ?_⟩
    exact .tup (SqT.of upd_same) (DqAll_mono (Gr.new (o := .tup vs) s hp).gg h)
  · cases e
theorem mkLst_ok {K : Fr} : CallD K (fun xs H1 Q => xs.length ≤ sizeLine ∧ ∀ p, H1 p = none → Q (.ref p) (upd H1 p (.lst xs))) mkLst := by
  intro G H vs ds d Q s h e k
  unfold mkLst at e
  split at e
  · rename_i hl
    cases e
    refine ⟨by rw [h.length]; exact size_of hl, fun p hp => k _ _ _ (Gr.new s hp) ?_⟩
    exact .lst upd_same (DqAll_mono (Gr.new (o := .lst vs) s hp).gg h)
  · cases e
theorem qe_tup {x1} {m : M (List D)} (h : QA X es m) : QE X (.Tuple es x1 pos) (eApp mkTup m) := PE.imp (pe_tup h) fun _ _ _ h => tApp_of mkTup_ok h
theorem qe_lst {m : M (List D)} (h : QA X es m) : QE X (.List es pos) (eApp mkLst m) := PE.imp (pe_lst h) fun _ _ _ h => tApp_of mkLst_ok h
theorem qe_callB {x : Str} {id : String} {r : List V → Hp → VK → Prop} {f : List D → Option D} {m : M (List D)} (hc : CallR X (.builtin id) r) (hd : CallD X.K r f) (hm : X.mg x = none) (ha : QA X (e :: es) m) (hg : Gl X x := by rfl) (hv : bootBuiltins x = some (.builtin id) := by decide +kernel) (hn : x ≠ "__name__" := by decide) (hdb : (x == ("__debug__" : Str)) = false := by decide)
    (he : starEach (e :: es) X.env = (false, eval e X.env) :: starEach es X.env := by rfl) (hpl : (backTo pos (starEach es X.env)).any (·.1) = false := by rfl) : QE X (.Call (.Name x p) (e :: es) [] pos) (eApp f m) :=
  PE.imp (pe_callB hc hg hm hv ha hn hdb he hpl) fun _ _ _ h => tApp_of hd h
theorem qe_callTy {x : Str} {T : String} {r : List V → Hp → VK → Prop} {f : List D → Option D} {m : M (List D)} (hc : CallR X (.type T) r) (hd : CallD X.K r f) (hm : X.mg x = none) (ha : QA X (e :: es) m) (hg : Gl X x := by rfl) (hv : bootBuiltins x = some (.type T) := by decide +kernel) (hn : x ≠ "__name__" := by decide) (hdb : (x == ("__debug__" : Str)) = false := by decide)
    (he : starEach (e :: es) X.env = (false, eval e X.env) :: starEach es X.env := by rfl) (hpl : (backTo pos (starEach es X.env)).any (·.1) = false := by rfl) : QE X (.Call (.Name x p) (e :: es) [] pos) (eApp f m) :=
  PE.imp (pe_callTy hc hg hm hv ha hn hdb he hpl) fun _ _ _ h => tApp_of hd h
/-- a def's body run upon data: n parameters, N slots -/
def endOf : Option (Fl × Ro) → Option D
  | some (.rt d, _) => some d
  | some (.nx, _) => some .none
  | _ => none
def runF (n N : Nat) (body : MS) : List D → Option D := fun ds => if ds.length = n then endOf (body (ds.map Sl.dat ++ List.replicate (N - n) Sl.un)) else none
theorem runF_len {n N : Nat} {body : MS} : ∀ ds d, runF n N body ds = some d → ds.length = n := by
  intro ds d h
  unfold runF at h
  split at h
  · assumption
  · cases h
/-- a def of data to data -/
def spP (K : Fr) (F : List D → Option D) (n : Nat) : Sp := fun vs H Q _ => vs.length = n ∧ ∃ G ds d, Same G H ∧ DqAll K G vs ds ∧ F ds = some d ∧ ∀ G' H' v, Gr G H G' H' → Dq K G' v d → Q v H'
theorem qe_call {x : Str} {k : Nat} {f : Addr} {fd : FuncData} {ps : List Str} {F : List D → Option D} {n : Nat} {m : M (List D)} (FO : FnOk X.prog X.w X.K X.mg X.base CX0 k f fd ps (spP X.K F n)) (hr : Room k X.A) (hm : X.mg x = some (.ref f)) (hk : PySem.W.keepIn X.K (.ref f) = true) (hb : Binds X.K fd ps [])
    (ha : QA X (e :: es) m) (hg : Gl X x := by rfl) (hdb : (x == ("__debug__" : Str)) = false := by decide) (he : starEach (e :: es) X.env = (false, eval e X.env) :: starEach es X.env := by rfl) (hpl : (backTo pos (starEach es X.env)).any (·.1) = false := by rfl)
    (hF : ∀ ds d, F ds = some d → ds.length = n := by exact runF_len) :
    QE X (.Call (.Name x p) (e :: es) [] pos) (eApp F m) := by
  refine PE.imp (pe_call (E := fun _ _ _ => False) FO hr hg hm hk hb .nil pass0 ha hdb he hpl) fun σ H Q h => ?_
  obtain ⟨R, G, ρ, d, ρ', rp, e, k⟩ := h
  obtain ⟨x, h1, h2⟩ := bindA e
  refine ⟨R, G, ρ, x, ρ', rp, h1, fun G1 H1 v1 s1 r1 d1 => ?_⟩
  show spP X.K F n (v1 ++ []) H1 Q _
  rw [List.append_nil]
  exact ⟨by rw [d1.length]; exact hF _ _ h2, G1, x, d, r1.subG, d1, h2, fun G3 H3 v3 g3 d3 => k G3 H3 v3 (s1.trans g3.gg) (r1.grow g3) d3⟩
end
end QL
set_option Elab.async false
set_option linter.all false
set_option maxRecDepth 100000
set_option maxHeartbeats 1000000
namespace QL
open PySem PySem.Spec PyProof.Rows L2

def sNil : MS := fun ρ => some (.nx, ρ)
def sSeq (a b : MS) : MS := fun ρ => (a ρ).bind fun p => match p.1 with
  | .nx => b p.2
  | f => some (f, p.2)
def sRet (a : M D) : MS := fun ρ => (a ρ).map fun p => (.rt p.1, p.2)
def sIf (c : M Bool) (a b : MS) : MS := fun ρ => (c ρ).bind fun p => if p.1 = true then a p.2 else b p.2
def gSet (i : Nat) : D → Ro → Option Ro := fun d ρ => some (ρ.set i (.dat d))
def gTupF : List (D → Ro → Option Ro) → List D → Ro → Option Ro
  | [], [], ρ => some ρ
  | f :: fs, d :: ds, ρ => (f d ρ).bind fun ρ1 => gTupF fs ds ρ1
  | _, _, _ => none
def unTup : D → Option (List D)
  | .tuple ds => some ds
  | _ => none
def gTup (fs : List (D → Ro → Option Ro)) : D → Ro → Option Ro := fun d ρ => (unTup d).bind fun ds => gTupF fs ds ρ
def sAsg (a : M D) (g : D → Ro → Option Ro) : MS := fun ρ => (a ρ).bind fun p => (g p.1 p.2).map fun ρ2 => (.nx, ρ2)
def sPar (i j : Nat) (as : M (List D)) : MS := fun ρ => (as ρ).bind fun p => match p.1 with
  | [x, y] => some (.nx, (p.2.set i (.dat x)).set j (.dat y))
  | _ => none
def sDrop (a : M D) : MS := fun ρ => (a ρ).map fun p => (.nx, p.2)
/-- the turns of a loop -/
def forM (g : D → Ro → Option Ro) (b : MS) : List D → MS
  | [], ρ => some (.nx, ρ)
  | x :: xs, ρ => (g x ρ).bind fun ρ1 => (b ρ1).bind fun p => match p.1 with
    | .nx => forM g b xs p.2
    | .ct => forM g b xs p.2
    | .bk => some (.nx, p.2)
    | .rt d => some (.rt d, p.2)
def sFor (it : M (List D)) (g : D → Ro → Option Ro) (b : MS) : MS := fun ρ => (it ρ).bind fun p => forM g b p.1 p.2
def whileM (c : M Bool) (b : MS) : Nat → MS
  | 0, _ => none
  | n + 1, ρ => (c ρ).bind fun q => if q.1 = true then ((b q.2).bind fun p => match p.1 with
    | .nx => whileM c b n p.2
    | .ct => whileM c b n p.2
    | .bk => some (.nx, p.2)
    | .rt d => some (.rt d, p.2)) else some (.nx, q.2)
def sWhile (fuel : Ro → Nat) (c : M Bool) (b : MS) : MS := fun ρ => whileM c b (fuel ρ) ρ

section
variable {X : Cx} {pos : Pos} {st : Stmt} {rest : List Stmt} {e : Expr}
theorem flQ_mono {K : Fr} {R G G1 : Hp} {E : Ends} {ρ' : Ro} {W V : List Nat} {σ σ1 : St} {f : Fl} (h : flQ K R G E σ W ρ' f) (s : Same G G1) (fr : ∀ σ', Frm V σ1 σ' → Frm W σ σ') : flQ K R G1 E σ1 V ρ' f := by
  cases f with
  | nx => exact fun G' H' σ' s' r f => h G' H' σ' (s.trans s') r (fr σ' f)
  | bk => exact fun G' H' σ' s' r f => h G' H' σ' (s.trans s') r (fr σ' f)
  | ct => exact fun G' H' σ' s' r f => h G' H' σ' (s.trans s') r (fr σ' f)
  | rt d => exact fun G' H' σ' v s' r f => h G' H' σ' v (s.trans s') r (fr σ' f)
theorem qs_nil : QSs X [] [] sNil := PSs.imp pss_nil fun E σ H h => by
  obtain ⟨R, G, ρ, f, ρ', rp, e, k⟩ := h
  cases e
  exact k G H σ (.refl _) rp (.refl _ _)
theorem qs_one {m : MS} {W : List Nat} (h : QS X W st m) : QSs X W [st] m := pss_one h
theorem qs_cons {m n : MS} {W V : List Nat} (h1 : QS X W st m) (h2 : QSs X V rest n) : QSs X (W ++ V) (st :: rest) (sSeq m n) := by
  refine PSs.imp (pss_cons h1 h2) fun E σ H h => ?_
  obtain ⟨R, G, ρ, f, ρ', rp, e, k⟩ := h
  unfold sSeq at e
  rw [Option.bind_eq_some_iff] at e
  obtain ⟨⟨f1, ρ1⟩, h1, e⟩ := e
  refine ⟨R, G, ρ, f1, ρ1, rp, h1, ?_⟩
  have left : ∀ σ', Frm W σ σ' → Frm (W ++ V) σ σ' := fun σ' z => z.mono fun j hj => List.mem_append_left _ hj
  cases f1 with
  | nx =>
    intro G1 H1 σ1 s1 r1 f1
    exact ⟨R, G1, ρ1, f, ρ', r1, e, flQ_mono k s1 fun σ' z => f1.trans z⟩
  | bk => cases e; exact flQ_mono (f := .bk) k (.refl _) left
  | ct => cases e; exact flQ_mono (f := .ct) k (.refl _) left
  | rt d => cases e; exact flQ_mono (f := .rt d) k (.refl _) left
theorem qs_ret {m : M D} (h : QE X e m) : QS X [] (.Return (some e) pos) (sRet m) := by
  refine PS.imp (ps_ret h) fun E σ H h => ?_
  obtain ⟨R, G, ρ, f, ρ', rp, e, k⟩ := h
  unfold sRet at e
  rw [Option.map_eq_some_iff] at e
  obtain ⟨⟨x, ρ1⟩, h1, e⟩ := e
  cases e
  exact ⟨R, G, ρ, x, _, rp, h1, fun G' H' v s r d => k G' H' σ v s r (.refl _ _) d⟩
theorem qs_expr {m : M D} (h : QE X e m) (hs : swapsWith e none pos.line X.env = pure false := by rfl) : QS X [] (.Expr e pos) (sDrop m) := by
  refine PS.imp (ps_expr h hs) fun E σ H h => ?_
  obtain ⟨R, G, ρ, f, ρ', rp, e, k⟩ := h
  unfold sDrop at e
  rw [Option.map_eq_some_iff] at e
  obtain ⟨⟨x, ρ1⟩, h1, e⟩ := e
  cases e
  exact ⟨R, G, ρ, x, _, rp, h1, fun G' H' v s r d => k G' H' σ s r (.refl _ _)⟩
theorem qs_if {c : Expr} {a b : List Stmt} {m : M Bool} {u v : MS} {W V : List Nat} (hc : QT X c m) (ha : QSs X W a u) (hb : QSs X V b v) : QS X (W ++ V) (.If c a b pos) (sIf m u v) := by
  refine PS.imp (ps_if hc ha hb) fun E σ H h => ?_
  obtain ⟨R, G, ρ, f, ρ', rp, e, k⟩ := h
  unfold sIf at e
  rw [Option.bind_eq_some_iff] at e
  obtain ⟨⟨x, ρ1⟩, h1, e⟩ := e
  refine ⟨R, G, ρ, x, ρ1, rp, h1, fun G1 H1 s1 r1 => ?_⟩
  cases x with
  | true =>
    rw [if_pos rfl] at e ⊢
    exact ⟨R, G1, ρ1, f, ρ', r1, e, flQ_mono k s1 fun σ' z => z.mono fun j hj => List.mem_append_left _ hj⟩
  | false =>
    rw [if_neg Bool.false_ne_true] at e ⊢
    exact ⟨R, G1, ρ1, f, ρ', r1, e, flQ_mono k s1 fun σ' z => z.mono fun j hj => List.mem_append_right _ hj⟩
/-- code that is never come to -/
def sNever : MS := fun _ => none
theorem qs_never : QS X [] st sNever := PS.imp ps_never fun E σ H h => by obtain ⟨_, _, _, _, _, _, e, _⟩ := h; cases e
theorem qss_never {sts : List Stmt} : QSs X [] sts sNever := PSs.imp pss_never fun E σ H h => by obtain ⟨_, _, _, _, _, _, e, _⟩ := h; cases e

/-! ### targets, assignments -/
theorem qg_name (i : Nat) {x : Str} (hN : X.N.Nodup) (hi : X.N[i]? = some x := by rfl) (hx : Loc X.env.scope x := by first | exact Or.inl rfl | exact Or.inr rfl) (hf : X.fn x = true ∨ X.env.scope.names.lookup x = some .local := by first | exact .inl rfl | exact .inr rfl | assumption) : QG X [i] (.Name x pos) (gSet i) := by
  refine PG.imp (pg_name hN hi hx hf) fun v σ H Q h => ?_
  obtain ⟨R, G, ρ, d, ρ', rp, dd, e, k⟩ := h
  cases e
  exact k _ (rp.setD dd) (by simp) fun j hj => by
    have : i ≠ j := fun z => hj (by simp [z])
    rw [List.getElem?_set_ne this]
end
end QL
set_option Elab.async false
set_option linter.all false
set_option maxRecDepth 100000
set_option maxHeartbeats 1000000
namespace QL
open PySem PySem.Spec PyProof.Rows L2

/-! ### values that stand behind the slots -/
theorem Rep.pushD {K : Fr} {R G H : Hp} {ρ : Ro} {σ : St} {v : V} {d : D} (r : Rep K R G H ρ σ) (hd : Dq K G v d) : Rep K R G H (ρ ++ [.dat d]) (σ ++ [some v]) := by
  have key : ∀ (i : Nat) (s : Sl), (ρ ++ [Sl.dat d])[i]? = some s → (ρ[i]? = some s ∧ (σ ++ [some v])[i]? = σ[i]?) ∨ (s = .dat d ∧ (σ ++ [some v])[i]? = some (some v)) := fun i s h => by
    by_cases hi : i < ρ.length
    · rw [List.getElem?_append_left hi] at h
      exact .inl ⟨h, List.getElem?_append_left (by rw [← r.len]; exact hi)⟩
    · have h1 : (ρ ++ [Sl.dat d])[i]? = [Sl.dat d][i - ρ.length]? := List.getElem?_append_right (by omega)
      rw [h1] at h
      have e : i - ρ.length = 0 := by
        cases q : i - ρ.length with
        | zero => rfl
        | succ k => rw [q] at h; simp at h
      rw [e] at h
      refine .inr ⟨(Option.some.inj h).symm, ?_⟩
      rw [List.getElem?_append_right (by rw [← r.len]; omega), ← r.len, e]
      rfl
  refine ⟨by simp [r.len], r.subR, r.subG, r.dis, fun i s h => ?_, fun i j c c' p h1 h2 h3 h4 => ?_⟩
  · rcases key i s h with ⟨h, e⟩ | ⟨rfl, e⟩
    · rw [e]; exact r.slot i s h
    · rw [e]; exact ⟨v, rfl, hd⟩
  · rcases key i _ h1 with ⟨h1, e1⟩ | ⟨z, _⟩
    · rcases key j _ h2 with ⟨h2, e2⟩ | ⟨z, _⟩
      · rw [e1] at h3; rw [e2] at h4
        exact r.apart i j c c' p h1 h2 h3 h4
      · cases z
    · cases z
theorem Rep.pushO {K : Fr} {R G H : Hp} {ρ : Ro} {σ : St} {p : Addr} {c : Ow} {ho : HO} (r : Rep K (upd R p ho) G H ρ σ) (hc : OwOk K G c ho) (hR : R p = none) : Rep K R G H (ρ ++ [.own c]) (σ ++ [some (.ref p)]) := by
  have hp : H p = some ho := r.subR p ho upd_same
  have gp : G p = none := r.dis p ho upd_same
  have key : ∀ (i : Nat) (s : Sl), (ρ ++ [Sl.own c])[i]? = some s → (ρ[i]? = some s ∧ (σ ++ [some (.ref p)])[i]? = σ[i]? ∧ i < ρ.length) ∨ (s = .own c ∧ (σ ++ [some (.ref p)])[i]? = some (some (.ref p)) ∧ i = ρ.length) := fun i s h => by
    by_cases hi : i < ρ.length
    · rw [List.getElem?_append_left hi] at h
      exact .inl ⟨h, List.getElem?_append_left (by rw [← r.len]; exact hi), hi⟩
    · have h1 : (ρ ++ [Sl.own c])[i]? = [Sl.own c][i - ρ.length]? := List.getElem?_append_right (by omega)
      rw [h1] at h
      have e : i - ρ.length = 0 := by
        cases q : i - ρ.length with
        | zero => rfl
        | succ k => rw [q] at h; simp at h
      rw [e] at h
      refine .inr ⟨(Option.some.inj h).symm, ?_, by omega⟩
      rw [List.getElem?_append_right (by rw [← r.len]; omega), ← r.len, e]
      rfl
  have np : ∀ (i : Nat) (c : Ow) (q : Addr), ρ[i]? = some (.own c) → σ[i]? = some (some (.ref q)) → q ≠ p := fun i c q h e z => by
    obtain ⟨q', ho', e', _, _, rq, _⟩ := r.slot i _ h
    rw [e'] at e
    cases e
    rw [z, upd_same] at rq
    cases rq
  refine ⟨by simp [r.len], fun b o q => ?_, r.subG, fun a o q => ?_, fun i s h => ?_, fun i j c1 c2 q h1 h2 h3 h4 => ?_⟩
  · exact r.subR b o (by rw [upd_ne (ne_of_none q hR)]; exact q)
  · exact r.dis a o (by rw [upd_ne (ne_of_none q hR)]; exact q)
  · rcases key i s h with ⟨h, e, _⟩ | ⟨rfl, e, _⟩
    · rw [e]
      have := r.slot i s h
      cases s with
      | un => trivial
      | dat d => exact this
      | scr ns => exact this
      | own c1 =>
        obtain ⟨q, hq, e', a1, a2, a3, a4⟩ := this
        exact ⟨q, hq, e', a1, a2, by rw [upd_ne (np i c1 q h e')] at a3; exact a3, a4⟩
    · rw [e]; exact ⟨p, ho, rfl, hp, gp, hR, hc⟩
  · rcases key i _ h1 with ⟨h1, e1, _⟩ | ⟨_, e1, l1⟩
    · rw [e1] at h3
      rcases key j _ h2 with ⟨h2, e2, _⟩ | ⟨_, e2, _⟩
      · rw [e2] at h4
        exact r.apart i j c1 c2 q h1 h2 h3 h4
      · rw [e2] at h4
        cases h4
        exact absurd rfl (np i c1 _ h1 h3)
    · rw [e1] at h3
      cases h3
      rcases key j _ h2 with ⟨h2, e2, _⟩ | ⟨_, e2, l2⟩
      · rw [e2] at h4
        exact absurd rfl (np j c2 _ h2 h4)
      · rw [l1, l2]
theorem Rep.popO {K : Fr} {R G H : Hp} {ρ : Ro} {σ : St} {p : Addr} {c : Ow} (r : Rep K R G H (ρ ++ [.own c]) (σ ++ [some (.ref p)])) : ∃ ho, Rep K (upd R p ho) G H ρ σ ∧ OwOk K G c ho ∧ R p = none := by
  have hl : ρ.length = σ.length := by have := r.len; simp at this; exact this
  have e0 : (ρ ++ [Sl.own c])[ρ.length]? = some (.own c) := by simp
  have e1 : (σ ++ [some (V.ref p)])[ρ.length]? = some (some (.ref p)) := by rw [hl]; simp
  obtain ⟨p', ho, e, hp, gp, rp, hc⟩ := r.slot _ _ e0
  rw [e1] at e
  cases e
  have lft : ∀ (i : Nat) (s : Sl), ρ[i]? = some s → (ρ ++ [Sl.own c])[i]? = some s ∧ (σ ++ [some (V.ref p)])[i]? = σ[i]? ∧ i < ρ.length := fun i s h => by
    have hi : i < ρ.length := (List.getElem?_eq_some_iff.mp h).1
    exact ⟨by rw [List.getElem?_append_left hi]; exact h, List.getElem?_append_left (by rw [← hl]; exact hi), hi⟩
  refine ⟨ho, ⟨hl, fun b o q => ?_, r.subG, fun a o q => ?_, fun i s h => ?_, fun i j c1 c2 q h1 h2 h3 h4 => ?_⟩, hc, rp⟩
  · by_cases hb : b = p
    · subst hb; rw [upd_same] at q; cases q; exact hp
    · rw [upd_ne hb] at q; exact r.subR b o q
  · by_cases hb : a = p
    · subst hb; exact gp
    · rw [upd_ne hb] at q; exact r.dis a o q
  · obtain ⟨h', e', hi⟩ := lft i s h
    have := r.slot i s h'
    rw [e'] at this
    cases s with
    | un => trivial
    | dat d => exact this
    | scr ns => exact this
    | own c1 =>
      obtain ⟨q, hq, e2, a1, a2, a3, a4⟩ := this
      have : q ≠ p := fun z => by
        subst z
        have := r.apart i ρ.length c1 c _ h' e0 (by rw [e']; exact e2) e1
        omega
      exact ⟨q, hq, e2, a1, a2, by rw [upd_ne this]; exact a3, a4⟩
  · obtain ⟨g1, f1, _⟩ := lft i _ h1
    obtain ⟨g2, f2, _⟩ := lft j _ h2
    exact r.apart i j c1 c2 q g1 g2 (by rw [f1]; exact h3) (by rw [f2]; exact h4)
/-- the last value goes to a slot -/
theorem Rep.moveO {K : Fr} {R G H : Hp} {ρ : Ro} {σ : St} {p : Addr} {c : Ow} (r : Rep K R G H (ρ ++ [.own c]) (σ ++ [some (.ref p)])) (i : Nat) : Rep K R G H (ρ.set i (.own c)) (σ.set i (some (.ref p))) := by
  obtain ⟨ho, r1, hc, hR⟩ := r.popO
  have np : ∀ (i : Nat) (c : Ow) (q : Addr), ρ[i]? = some (.own c) → σ[i]? = some (some (.ref q)) → q ≠ p := fun i c q h e z => by
    obtain ⟨q', ho', e', _, _, rq, _⟩ := r1.slot i _ h
    rw [e'] at e
    cases e
    rw [z, upd_same] at rq
    cases rq
  refine ⟨by simpa using r1.len, r.subR, r.subG, r.dis, fun j s h => ?_, fun j k c1 c2 q h1 h2 h3 h4 => ?_⟩
  · by_cases hj : i = j
    · subst hj
      rw [List.getElem?_set] at h
      simp only [if_true] at h
      split at h
      · rename_i hl
        cases h
        rw [List.getElem?_set_self (by rw [← r1.len]; exact hl)]
        exact ⟨p, ho, rfl, r1.subR _ _ upd_same, r1.dis _ _ upd_same, hR, hc⟩
      · cases h
    · rw [List.getElem?_set_ne hj] at h
      rw [List.getElem?_set_ne hj]
      have := r1.slot j s h
      cases s with
      | un => trivial
      | dat d => exact this
      | scr ns => exact this
      | own c1 =>
        obtain ⟨q, hq, e', a1, a2, a3, a4⟩ := this
        exact ⟨q, hq, e', a1, a2, by rw [upd_ne (np j c1 q h e')] at a3; exact a3, a4⟩
  · by_cases hj : i = j
    · by_cases hk : i = k
      · rw [← hj, ← hk]
      · subst hj
        have hl : i < σ.length := by
          have := (List.getElem?_eq_some_iff.mp h3).1
          simpa using this
        rw [List.getElem?_set_self hl] at h3
        cases h3
        rw [List.getElem?_set_ne hk] at h2 h4
        exact absurd rfl (np k c2 _ h2 h4)
    · by_cases hk : i = k
      · subst hk
        have hl : i < σ.length := by
          have := (List.getElem?_eq_some_iff.mp h4).1
          simpa using this
        rw [List.getElem?_set_self hl] at h4
        cases h4
        rw [List.getElem?_set_ne hj] at h1 h3
        exact absurd rfl (np j c1 _ h1 h3)
      · rw [List.getElem?_set_ne hj] at h1 h3
        rw [List.getElem?_set_ne hk] at h2 h4
        exact r1.apart j k c1 c2 q h1 h2 h3 h4
/-- an expression that makes an object of its own -/
def tMO (K : Fr) (m : M Ow) : TE := fun σ H Q => ∃ R G ρ c ρ', Rep K R G H ρ σ ∧ m ρ = some (c, ρ') ∧ ∀ G' H' p, Same G G' → Rep K R G' H' (ρ' ++ [.own c]) (σ ++ [some (.ref p)]) → Q (.ref p) H'
abbrev QO (X : Cx) (e : Expr) (m : M Ow) : Prop := PE X e (tMO X.K m)
/-- values that go to slots: data, or objects of one's own -/
def vOk (K : Fr) (R G : Hp) : Sl → V → Prop := fun _ _ => True
def tMX (K : Fr) (m : M (List Sl)) : TA := fun σ H Q => ∃ R G ρ ss ρ', Rep K R G H ρ σ ∧ m ρ = some (ss, ρ') ∧ ∀ G' H' vs, Same G G' → vs.length = ss.length → Rep K R G' H' (ρ' ++ ss) (σ ++ vs.map some) → Q vs H'
abbrev QX (X : Cx) (e : List Expr) (m : M (List Sl)) : Prop := PA X e (tMX X.K m)
theorem Rep.pushNew {K : Fr} {R G H : Hp} {ρ : Ro} {σ : St} {p : Addr} {c : Ow} {ho : HO} (r : Rep K R G H ρ σ) (hp : H p = none) (hc : OwOk K G c ho) : Rep K R G (upd H p ho) (ρ ++ [.own c]) (σ ++ [some (.ref p)]) := by
  have hR := r.subR.free hp
  have r1 := r.grow (Gr.junk (o := ho) r.subG hp)
  refine Rep.pushO (ho := ho) ⟨r1.len, fun b o q => ?_, r1.subG, fun a o q => ?_, fun i s h => ?_, r1.apart⟩ hc hR
  · by_cases hb : b = p
    · subst hb; rw [upd_same] at q ⊢; exact q
    · rw [upd_ne hb] at q; exact r1.subR b o q
  · by_cases hb : a = p
    · subst hb; exact r.subG.free hp
    · rw [upd_ne hb] at q; exact r1.dis a o q
  · have := r.slot i s h
    have t1 := r1.slot i s h
    cases s with
    | un => trivial
    | dat d => exact t1
    | scr ns => exact t1
    | own c1 =>
      obtain ⟨q, hq, e', a1, a2, a3, a4⟩ := this
      have np : q ≠ p := ne_of_none a1 hp
      exact ⟨q, hq, e', by rw [upd_ne np]; exact a1, a2, by rw [upd_ne np]; exact a3, a4⟩

section
variable {X : Cx} {pos : Pos} {e : Expr} {es : List Expr}
def oLst (as : M (List D)) : M Ow := fun ρ => (as ρ).bind fun p => if p.1.length ≤ 1000000 then some (.lst p.1, p.2) else none
theorem qo_lst {m : M (List D)} (h : QA X es m) : QO X (.List es pos) (oLst m) := by
  refine PE.imp (pe_lst h) fun σ H Q h => ?_
  obtain ⟨R, G, ρ, c, ρ', rp, e, k⟩ := h
  unfold oLst at e
  rw [Option.bind_eq_some_iff] at e
  obtain ⟨⟨ds, ρ1⟩, h1, e⟩ := e
  split at e
  · rename_i hl
    cases e
    refine ⟨R, G, ρ, ds, _, rp, h1, fun G1 H1 vs s1 r1 d1 => ⟨by rw [d1.length]; exact size_of hl, fun p hp => ?_⟩⟩
    exact k G1 _ p s1 (r1.pushNew hp (ho := .lst vs) d1)
  · cases e
/-- a list that an expression makes anew is to be owned: from its reading -/
def xNil : M (List Sl) := fun ρ => some ([], ρ)
def xDat (a : M D) (r : M (List Sl)) : M (List Sl) := fun ρ => (a ρ).bind fun p => (r p.2).map fun q => (.dat p.1 :: q.1, q.2)
def xOwn (a : M Ow) (r : M (List Sl)) : M (List Sl) := fun ρ => (a ρ).bind fun p => (r p.2).map fun q => (.own p.1 :: q.1, q.2)
theorem qx_nil : QX X [] xNil := PA.imp pa_nil fun σ H Q h => by
  obtain ⟨R, G, ρ, d, ρ', rp, e, k⟩ := h
  cases e
  exact k G H [] (.refl _) rfl (by simpa using rp)
end
/-- appended values: a middle one is put ahead -/
theorem Rep.swapEnd {K : Fr} {R G H : Hp} {ρ : Ro} {σ : St} {ss : List Sl} {vs : List V} {s : Sl} {v : V} (hl : ρ.length = σ.length) (hl2 : ss.length = vs.length) (r : Rep K R G H ((ρ ++ ss) ++ [s]) ((σ ++ vs.map some) ++ [some v])) : Rep K R G H (ρ ++ (s :: ss)) (σ ++ (v :: vs).map some) := by
  -- slot i of the new one is slot f i of the old one
  have hn : (ρ ++ ss).length = (σ ++ vs.map some).length := by simp [hl, hl2]
  let f : Nat → Nat := fun i => if i < ρ.length then i else if i = ρ.length then (ρ ++ ss).length else i - 1
  have get : ∀ {α : Type} (a b : List α) (x : α) (i : Nat), a.length = ρ.length → b.length = ss.length → (a ++ (x :: b))[i]? = ((a ++ b) ++ [x])[f i]? ∨ (a ++ (x :: b))[i]? = none := fun a b x i ha hb => by
    by_cases h1 : i < ρ.length
    · left
      show _ = ((a ++ b) ++ [x])[if i < ρ.length then i else _]?
      rw [if_pos h1, List.getElem?_append_left (by omega), List.append_assoc, List.getElem?_append_left (by omega)]
    · by_cases h2 : i = ρ.length
      · left
        show _ = ((a ++ b) ++ [x])[if i < ρ.length then i else if i = ρ.length then (ρ ++ ss).length else _]?
        rw [if_neg h1, if_pos h2, List.getElem?_append_right (by omega)]
        have : (ρ ++ ss).length = (a ++ b).length := by simp [ha, hb]
        rw [this]
        have e : i - a.length = 0 := by omega
        rw [e]
        simp
      · by_cases h3 : i < ρ.length + ss.length + 1
        · left
          show _ = ((a ++ b) ++ [x])[if i < ρ.length then i else if i = ρ.length then (ρ ++ ss).length else i - 1]?
          rw [if_neg h1, if_neg h2, List.getElem?_append_right (by omega)]
          obtain ⟨k, hk⟩ : ∃ k, i - a.length = k + 1 := ⟨i - a.length - 1, by omega⟩
          rw [hk, List.getElem?_cons_succ, List.getElem?_append_left (by simp; omega), List.getElem?_append_right (by omega)]
          congr 1
          omega
        · right
          rw [List.getElem?_eq_none]
          simp; omega
  have inj : ∀ i j, f i = f j → i < ρ.length + ss.length + 1 → j < ρ.length + ss.length + 1 → i = j := fun i j h h1 h2 => by
    have e : ∀ i, f i = if i < ρ.length then i else if i = ρ.length then (ρ ++ ss).length else i - 1 := fun _ => rfl
    rw [e, e] at h
    have hL : (ρ ++ ss).length = ρ.length + ss.length := by simp
    rw [hL] at h
    split at h <;> split at h <;> (try split at h) <;> (try split at h) <;> omega
  have g1 := fun i => get ρ ss s i rfl rfl
  have g2 := fun i => get σ (vs.map some) (some v) i hl.symm (by simp [hl2])
  have key : ∀ (i : Nat) (t : Sl), (ρ ++ (s :: ss))[i]? = some t → ((ρ ++ ss) ++ [s])[f i]? = some t ∧ (σ ++ (v :: vs).map some)[i]? = ((σ ++ vs.map some) ++ [some v])[f i]? ∧ i < ρ.length + ss.length + 1 := fun i t h => by
    have hi : i < ρ.length + ss.length + 1 := by
      have := (List.getElem?_eq_some_iff.mp h).1
      simp at this
      omega
    refine ⟨?_, ?_, hi⟩
    · rcases g1 i with e | e
      · rw [← e]; exact h
      · rw [e] at h; cases h
    · rcases g2 i with e | e
      · exact e
      · rw [List.getElem?_eq_none_iff] at e
        simp [← hl, ← hl2] at e
        omega
  refine ⟨by simp [hl, hl2], r.subR, r.subG, r.dis, fun i t h => ?_, fun i j c c' p h1 h2 h3 h4 => ?_⟩
  · obtain ⟨a, b, _⟩ := key i t h
    rw [b]; exact r.slot _ _ a
  · obtain ⟨a1, b1, l1⟩ := key i _ h1
    obtain ⟨a2, b2, l2⟩ := key j _ h2
    rw [b1] at h3; rw [b2] at h4
    exact inj i j (r.apart _ _ c c' p a1 a2 h3 h4) l1 l2
section
variable {X : Cx} {pos : Pos} {e : Expr} {es : List Expr}
theorem qx_dat {m : M D} {n : M (List Sl)} (ha : QE X e m) (hr : QX X es n) (hs : starEach (e :: es) X.env = (false, eval e X.env) :: starEach es X.env := by rfl) : QX X (e :: es) (xDat m n) := by
  refine PA.imp (pa_cons ha hr hs) fun σ H Q h => ?_
  obtain ⟨R, G, ρ, ss, ρ', rp, e, k⟩ := h
  unfold xDat at e
  rw [Option.bind_eq_some_iff] at e
  obtain ⟨⟨x, ρ1⟩, h1, e⟩ := e
  rw [Option.map_eq_some_iff] at e
  obtain ⟨⟨y, ρ2⟩, h2, e⟩ := e
  cases e
  refine ⟨R, G, ρ, x, ρ1, rp, h1, fun G1 H1 v1 s1 r1 d1 => ?_⟩
  refine ⟨R, G1, ρ1, y, _, r1, h2, fun G2 H2 v2 s2 l2 r2 => ?_⟩
  have hl := r2.len
  have hlen : ρ2.length = σ.length := by simp [l2] at hl; exact hl
  refine k G2 H2 (v1 :: v2) (s1.trans s2) (by simp [l2]) ?_
  exact Rep.swapEnd hlen l2.symm (r2.pushD (Dq_mono s2 d1))
theorem qx_own {m : M Ow} {n : M (List Sl)} (ha : QO X e m) (hr : QX X es n) (hs : starEach (e :: es) X.env = (false, eval e X.env) :: starEach es X.env := by rfl) : QX X (e :: es) (xOwn m n) := by
  refine PA.imp (pa_cons ha hr hs) fun σ H Q h => ?_
  obtain ⟨R, G, ρ, ss, ρ', rp, e, k⟩ := h
  unfold xOwn at e
  rw [Option.bind_eq_some_iff] at e
  obtain ⟨⟨x, ρ1⟩, h1, e⟩ := e
  rw [Option.map_eq_some_iff] at e
  obtain ⟨⟨y, ρ2⟩, h2, e⟩ := e
  cases e
  refine ⟨R, G, ρ, x, ρ1, rp, h1, fun G1 H1 p s1 r1 => ?_⟩
  obtain ⟨ho, r1', hc, hR⟩ := r1.popO
  refine ⟨upd R p ho, G1, ρ1, y, _, r1', h2, fun G2 H2 v2 s2 l2 r2 => ?_⟩
  have hl := r2.len
  have hlen : ρ2.length = σ.length := by simp [l2] at hl; exact hl
  refine k G2 H2 (.ref p :: v2) (s1.trans s2) (by simp [l2]) ?_
  exact Rep.swapEnd hlen l2.symm (r2.pushO (OwOk_mono s2 hc) hR)

/-! ### assignments -/
theorem qs_asg {tg : Expr} {m : M D} {vs : List Nat} {g : D → Ro → Option Ro} (he : QE X e m) (hg : QG X vs tg g) (hs : swapsWithSole [tg] e pos.line X.env = pure false := by rfl) (hw : swappedStores [tg] e X.env = pure none := by rfl)
    (h1 : (assignEach [tg] X.env).map (·.2) = [assign tg X.env] := by rfl) : QS X vs (.Assign [tg] e pos) (sAsg m g) := by
  refine PS.imp (ps_asg he hg hs hw h1) fun E σ H h => ?_
  obtain ⟨R, G, ρ, f, ρ', rp, e, k⟩ := h
  unfold sAsg at e
  rw [Option.bind_eq_some_iff] at e
  obtain ⟨⟨x, ρ1⟩, h1, e⟩ := e
  rw [Option.map_eq_some_iff] at e
  obtain ⟨ρ2, h2, e⟩ := e
  cases e
  refine ⟨R, G, ρ, x, ρ1, rp, h1, fun G1 H1 v1 s1 r1 d1 => ?_⟩
  exact ⟨R, G1, ρ1, x, _, r1, d1, h2, fun σ' r' _ fr => k G1 H1 σ' s1 r' fr⟩
theorem qs_set (i : Nat) {x : Str} {m : M D} {pos' : Pos} (hN : X.N.Nodup) (he : QE X e m) (hi : X.N[i]? = some x := by rfl) (hx : Loc X.env.scope x := by first | exact Or.inl rfl | exact Or.inr rfl) (hs : swapsWith e (some (.Name x pos')) pos.line X.env = pure false := by rfl) (hf : X.fn x = true ∨ X.env.scope.names.lookup x = some .local := by first | exact .inl rfl | exact .inr rfl | assumption) :
    QS X [i] (.Assign [.Name x pos'] e pos) (sAsg m (gSet i)) := by
  refine PS.imp (ps_set hN hi hx he hs hf) fun E σ H h => ?_
  obtain ⟨R, G, ρ, f, ρ', rp, e, k⟩ := h
  unfold sAsg at e
  rw [Option.bind_eq_some_iff] at e
  obtain ⟨⟨x, ρ1⟩, h1, e⟩ := e
  cases e
  exact ⟨R, G, ρ, x, ρ1, rp, h1, fun G1 H1 v1 s1 r1 d1 => k G1 H1 _ s1 (r1.setD d1) (fun j hj => List.getElem?_set_ne fun z => hj (by simp [z]))⟩
/-- x = an object of one's own -/
def sOwn (i : Nat) (a : M Ow) : MS := fun ρ => (a ρ).map fun p => (.nx, p.2.set i (.own p.1))
theorem qs_own (i : Nat) {x : Str} {m : M Ow} {pos' : Pos} (hN : X.N.Nodup) (he : QO X e m) (hi : X.N[i]? = some x := by rfl) (hx : Loc X.env.scope x := by first | exact Or.inl rfl | exact Or.inr rfl) (hs : swapsWith e (some (.Name x pos')) pos.line X.env = pure false := by rfl) (hf : X.fn x = true ∨ X.env.scope.names.lookup x = some .local := by first | exact .inl rfl | exact .inr rfl | assumption) :
    QS X [i] (.Assign [.Name x pos'] e pos) (sOwn i m) := by
  refine PS.imp (ps_set hN hi hx he hs hf) fun E σ H h => ?_
  obtain ⟨R, G, ρ, f, ρ', rp, e, k⟩ := h
  unfold sOwn at e
  rw [Option.map_eq_some_iff] at e
  obtain ⟨⟨x, ρ1⟩, h1, e⟩ := e
  cases e
  exact ⟨R, G, ρ, x, ρ1, rp, h1, fun G1 H1 p s1 r1 => k G1 H1 _ s1 (r1.moveO i) (fun j hj => List.getElem?_set_ne fun z => hj (by simp [z]))⟩
/-- the last two values go to slots -/
theorem Rep.move {K : Fr} {R G H : Hp} {ρ : Ro} {σ : St} {s : Sl} {v : V} (hl : ρ.length = σ.length) (hs : ∀ ns, s ≠ .scr ns) (r : Rep K R G H (ρ ++ [s]) (σ ++ [some v])) (i : Nat) : Rep K R G H (ρ.set i s) (σ.set i (some v)) := by
  have e0 : (ρ ++ [s])[ρ.length]? = some s := by simp
  have e1 : (σ ++ [some v])[ρ.length]? = some (some v) := by rw [hl]; simp
  have base : Rep K R G H ρ σ := by
    refine ⟨hl, r.subR, r.subG, r.dis, fun j t h => ?_, fun j k c c' p h1 h2 h3 h4 => ?_⟩
    · have hj : j < ρ.length := (List.getElem?_eq_some_iff.mp h).1
      have := r.slot j t (by rw [List.getElem?_append_left hj]; exact h)
      rw [List.getElem?_append_left (by rw [← hl]; exact hj)] at this
      exact this
    · have hj : j < ρ.length := (List.getElem?_eq_some_iff.mp h1).1
      have hk : k < ρ.length := (List.getElem?_eq_some_iff.mp h2).1
      exact r.apart j k c c' p (by rw [List.getElem?_append_left hj]; exact h1) (by rw [List.getElem?_append_left hk]; exact h2) (by rw [List.getElem?_append_left (by rw [← hl]; exact hj)]; exact h3) (by rw [List.getElem?_append_left (by rw [← hl]; exact hk)]; exact h4)
  have so := r.slot _ _ e0
  rw [e1] at so
  cases s with
  | un => exact base.forget i _
  | dat d =>
    obtain ⟨v', e, x⟩ := so
    cases e
    exact base.setD x
  | scr ns => exact absurd rfl (hs ns)
  | own c =>
    obtain ⟨p, ho, e, _⟩ := so
    cases e
    exact r.moveO i
def noScr : Sl → Bool
  | .scr _ => false
  | _ => true
def sPar2 (i j : Nat) (as : M (List Sl)) : MS := fun ρ => (as ρ).bind fun p => match p.1 with
  | [x, y] => if noScr x && noScr y && decide (j < p.2.length) then some (.nx, (p.2.set i x).set j y) else none
  | _ => none
theorem noScr_ne {s : Sl} (h : noScr s = true) : ∀ ns, s ≠ .scr ns := fun ns e => by subst e; cases h
theorem qs_par {i j : Nat} {x y : Str} {a b : Expr} {m : M (List Sl)} {px py pt : Pos} {kt k2 pt2} (hN : X.N.Nodup) (ha : QX X [a, b] m) (hc : X.calm = true := by rfl) (hi : X.N[i]? = some x := by rfl) (hj : X.N[j]? = some y := by rfl) (hij : i ≠ j := by decide)
    (hx : X.env.scope.names.lookup x = some .local := by rfl) (hy : X.env.scope.names.lookup y = some .local := by rfl)
    (hw : swappedStores [.Tuple [.Name x px, .Name y py] kt pt] (.Tuple [a, b] k2 pt2) X.env = pure (some [x, y]) := by rfl)
    (hs : swapsWithSole [.Tuple [.Name x px, .Name y py] kt pt] (.Tuple [a, b] k2 pt2) pos.line X.env = pure false := by rfl) :
    QS X [i, j] (.Assign [.Tuple [.Name x px, .Name y py] kt pt] (.Tuple [a, b] k2 pt2) pos) (sPar2 i j m) := by
  refine PS.imp (ps_par hc hN hi hj hij hx hy ha hw hs) fun E σ H h => ?_
  obtain ⟨R, G, ρ, f, ρ', rp, e, k⟩ := h
  unfold sPar2 at e
  rw [Option.bind_eq_some_iff] at e
  obtain ⟨⟨ss, ρ1⟩, h1, e⟩ := e
  refine ⟨R, G, ρ, ss, ρ1, rp, h1, fun G1 H1 vs s1 l1 r1 => ?_⟩
  match ss, vs, l1, e with
  | [s, t], [v, w], _, e =>
    simp only at e
    split at e
    · rename_i hb
      cases e
      rw [Bool.and_eq_true, Bool.and_eq_true] at hb
      have hjl : j < ρ1.length := of_decide_eq_true hb.2
      have hl := r1.len
      have hlen : ρ1.length = σ.length := by simp at hl; exact hl
      refine ⟨v, w, rfl, k G1 H1 _ s1 ?_ (fun l hl => by rw [List.getElem?_set_ne fun z => hl (by simp [z]), List.getElem?_set_ne fun z => hl (by simp [z])])⟩
      have r2 : Rep X.K R G1 H1 ((ρ1 ++ [s]) ++ [t]) ((σ ++ [some v]) ++ [some w]) := by simpa using r1
      have r3 := Rep.move (by simp [hlen]) (noScr_ne hb.1.2) r2 j
      rw [List.set_append_left _ _ hjl, List.set_append_left _ _ (by rw [← hlen]; exact hjl)] at r3
      have r4 := Rep.move (by simp [hlen]) (noScr_ne hb.1.1) r3 i
      rw [List.set_comm _ _ hij, List.set_comm _ _ hij]
      exact r4
    · cases e
  | [], _, _, e => cases e
  | [_], _, _, e => cases e
  | _ :: _ :: _ :: _, _, _, e => cases e
end
end QL
set_option Elab.async false
set_option linter.all false
set_option maxRecDepth 100000
set_option maxHeartbeats 1000000
namespace QL
open PySem PySem.Spec PyProof.Rows L2

/-! ### targets of several names -/
/-- several targets -/
def tMGs (K : Fr) (vs : List Nat) (fs : List (D → Ro → Option Ro)) : TGs := fun us σ H Q => ∃ R G ρ ds ρ', Rep K R G H ρ σ ∧ DqAll K G us ds ∧ gTupF fs ds ρ = some ρ' ∧ ∀ σ', Rep K R G H ρ' σ' → σ'.length = σ.length → (∀ j : Nat, j ∉ vs → σ'[j]? = σ[j]?) → Q σ' H
theorem PGs.imp {X : Cx} {e : List Expr} {t t' : TGs} (h : PGs X e t) (w : ∀ v σ H Q, t' v σ H Q → t v σ H Q) : PGs X e t' := ⟨fun pins s σ H v u Q I r q => h.run pins s σ H v u Q I r (w v σ H Q q)⟩
abbrev QGs (X : Cx) (vs : List Nat) (e : List Expr) (fs : List (D → Ro → Option Ro)) : Prop := PGs X e (tMGs X.K vs fs)
section
variable {X : Cx} {pos : Pos} {e : Expr} {es : List Expr}
theorem qgs_nil : QGs X [] [] [] := PGs.imp pgs_nil fun v σ H Q h => by
  obtain ⟨R, G, ρ, ds, ρ', rp, dd, e, k⟩ := h
  cases dd with
  | nil =>
    cases e
    exact ⟨rfl, k σ rp rfl fun _ _ => rfl⟩
  | cons _ _ => cases e
theorem qgs_cons {vs ws : List Nat} {f : D → Ro → Option Ro} {fs : List (D → Ro → Option Ro)} (h1 : QG X vs e f) (h2 : QGs X ws es fs) (hs : (assignEach (e :: es) X.env).map (·.2) = assign e X.env :: (assignEach es X.env).map (·.2) := by rfl) : QGs X (vs ++ ws) (e :: es) (f :: fs) := by
  refine PGs.imp (pgs_cons h1 h2 hs) fun us σ H Q h => ?_
  obtain ⟨R, G, ρ, ds, ρ', rp, dd, e, k⟩ := h
  cases dd with
  | nil => cases e
  | cons d1 d2 =>
    unfold gTupF at e
    rw [Option.bind_eq_some_iff] at e
    obtain ⟨ρ1, h1, e⟩ := e
    refine ⟨_, _, rfl, R, G, ρ, _, ρ1, rp, d1, h1, fun σ1 r1 l1 j1 => ?_⟩
    refine ⟨R, G, ρ1, _, ρ', r1, d2, e, fun σ2 r2 l2 j2 => ?_⟩
    refine k σ2 r2 (l2.trans l1) fun j hj => ?_
    rw [j2 j fun z => hj (List.mem_append_right _ z), j1 j fun z => hj (List.mem_append_left _ z)]
theorem qg_tup {vs : List Nat} {fs : List (D → Ro → Option Ro)} {k : Nat} (h : QGs X vs es fs) (hc : X.calm = true := by rfl)
    (hn : (assignEach es X.env).length = fs.length := by rfl) (hst : (assignEach es X.env).findIdx? (·.1) = none := by rfl) : QG X vs (.Tuple es k pos) (gTup fs) := by
  refine PG.imp (pg_tup hc h hn hst) fun v σ H Q h => ?_
  obtain ⟨R, G, ρ, d, ρ', rp, dd, e, k⟩ := h
  unfold gTup at e
  rw [Option.bind_eq_some_iff] at e
  obtain ⟨ds, h1, e⟩ := e
  cases d <;> cases h1
  cases dd with
  | tup hs ha =>
    rename_i a xs
    refine ⟨a, xs, rfl, SqT_mono rp.subG hs, ?_, R, G, ρ, _, ρ', rp, ha, e, k⟩
    rw [ha.length]
    have : ∀ (fs : List (D → Ro → Option Ro)) (ds : List D) (ρ ρ' : Ro), gTupF fs ds ρ = some ρ' → ds.length = fs.length := by
      intro fs
      induction fs with
      | nil => intro ds ρ ρ' h; cases ds <;> first | rfl | cases h
      | cons f fs ih =>
        intro ds ρ ρ' h
        cases ds with
        | nil => cases h
        | cons d ds =>
          unfold gTupF at h
          rw [Option.bind_eq_some_iff] at h
          obtain ⟨ρ1, _, h⟩ := h
          simp [ih ds ρ1 ρ' h]
    exact this fs _ _ _ e
end

/-! ### walks -/
theorem DqAll.idx {K : Fr} {G : Hp} {vs : List V} {ds : List D} {i : Nat} (h : DqAll K G vs ds) {d : D} {v : V} (hd : ds[i]? = some d) (hv : vs[i]? = some v) : Dq K G v d := by
  obtain ⟨v', e, x⟩ := h.get hd
  rw [hv] at e
  cases e
  exact x
theorem walk_list {K : Fr} {G : Hp} {a : Addr} {ds : List D} (h : Dq K G (.ref a) (.list ds)) : WalkD K (Itl K a) G ds := by
  cases h with
  | lst ha hs =>
    rename_i xs
    have sq : ∀ G' H, Same G G' → Same G' H → SqL K H a xs := fun G' H s1 s2 => SqL.of (s2 _ _ (s1 _ _ ha))
    refine ⟨fun i G' H s1 s2 hi => ⟨xs, xs[i]'(by rw [hs.length]; exact hi), sq G' H s1 s2, by simp⟩, fun i G' H s1 s2 hi => ⟨xs, sq G' H s1 s2, by rw [hs.length]; exact hi⟩, fun i G' H v H' d s1 s2 hd hy => ?_⟩
    obtain ⟨rfl, hx⟩ := hy
    exact ⟨G', Gr.refl s2, Dq_mono s1 (hs.idx hd (hx xs (sq G' _ s1 s2)))⟩
theorem walk_tup {K : Fr} {G : Hp} {a : Addr} {ds : List D} (h : Dq K G (.ref a) (.tuple ds)) : WalkD K (Itt K a) G ds := by
  cases h with
  | tup ha hs =>
    rename_i xs
    have sq : ∀ G' H, Same G G' → Same G' H → SqT K H a xs := fun G' H s1 s2 => SqT_mono s2 (SqT_mono s1 ha)
    refine ⟨fun i G' H s1 s2 hi => ⟨xs, xs[i]'(by rw [hs.length]; exact hi), sq G' H s1 s2, by simp⟩, fun i G' H s1 s2 hi => ⟨xs, sq G' H s1 s2, by rw [hs.length]; exact hi⟩, fun i G' H v H' d s1 s2 hd hy => ?_⟩
    obtain ⟨rfl, hx⟩ := hy
    exact ⟨G', Gr.refl s2, Dq_mono s1 (hs.idx hd (hx xs (sq G' _ s1 s2)))⟩
def intsD (lo : Int) (n : Nat) : List D := (List.range n).map fun (i : Nat) => .int (lo + i)
theorem walk_range {K : Fr} {G : Hp} {lo : Int} {n : Nat} : WalkD K (Itr lo n) G (intsD lo n) := by
  have hl : (intsD lo n).length = n := by simp [intsD]
  refine ⟨fun i G' H s1 s2 hi => by rw [hl] at hi; exact hi, fun i G' H s1 s2 hi => by rw [hl] at hi; exact hi, fun i G' H v H' d s1 s2 hd hy => ?_⟩
  obtain ⟨rfl, rfl⟩ := hy
  refine ⟨G', Gr.refl s2, ?_⟩
  have hi : i < n := by
    have := (List.getElem?_eq_some_iff.mp hd).1
    rw [hl] at this
    exact this
  have : d = .int (lo + i) := by
    simp [intsD, hi] at hd
    exact hd.symm
  subst this
  exact .int _
def asSeq : D → Option (List D)
  | .list ds => some ds
  | .tuple ds => some ds
  | _ => none
def iSeq (m : M D) : M (List D) := fun ρ => (m ρ).bind fun p => (asSeq p.1).map fun xs => (xs, p.2)
def rng1 : List D → Option (List D)
  | [.int j] => if -(2 ^ 62) ≤ j ∧ j < 2 ^ 62 then some (intsD 0 j.toNat) else none
  | _ => none
def rng2 : List D → Option (List D)
  | [.int i, .int j] => if -(2 ^ 62) ≤ i ∧ i < 2 ^ 62 ∧ -(2 ^ 62) ≤ j ∧ j < 2 ^ 62 then some (intsD i (j - i).toNat) else none
  | _ => none
def iApp (f : List D → Option (List D)) (m : M (List D)) : M (List D) := fun ρ => (m ρ).bind fun p => (f p.1).map fun xs => (xs, p.2)
section
variable {X : Cx} {pos p : Pos} {tg e : Expr} {es : List Expr}
theorem PI.or {t t' : TI} (h : PI X tg e t) (h' : PI X tg e t') : PI X tg e (fun σ H Q => t σ H Q ∨ t' σ H Q) := ⟨fun pins s σ H Q I q => by
  rcases q with q | q
  · exact h.run pins s σ H Q I q
  · exact h'.run pins s σ H Q I q⟩
theorem qi_seq {m : M D} (he : QE X e m) : QI X tg e (iSeq m) := by
  refine PI.imp (PI.or (pi_list he) (pi_tup he)) fun σ H Q h => ?_
  obtain ⟨R, G, ρ, ds, ρ', rp, e, k⟩ := h
  unfold iSeq at e
  rw [Option.bind_eq_some_iff] at e
  obtain ⟨⟨x, ρ1⟩, h1, e⟩ := e
  rw [Option.map_eq_some_iff] at e
  obtain ⟨xs, h2, e⟩ := e
  cases e
  cases x <;> cases h2
  · refine .inl ⟨R, G, ρ, _, _, rp, h1, fun G1 H1 v1 s1 r1 d1 => ?_⟩
    cases id d1 with
    | lst ha hs => exact ⟨_, rfl, ⟨_, SqL.of (r1.subG _ _ ha)⟩, k G1 H1 _ s1 r1 (walk_list d1)⟩
  · refine .inr ⟨R, G, ρ, _, _, rp, h1, fun G1 H1 v1 s1 r1 d1 => ?_⟩
    cases id d1 with
    | tup ha hs => exact ⟨_, rfl, ⟨_, SqT_mono r1.subG ha⟩, k G1 H1 _ s1 r1 (walk_tup d1)⟩
theorem iApp_some {f : List D → Option (List D)} {m : M (List D)} {ρ ρ' : Ro} {xs : List D} (h : iApp f m ρ = some (xs, ρ')) : ∃ ds, m ρ = some (ds, ρ') ∧ f ds = some xs := by
  unfold iApp at h
  rw [Option.bind_eq_some_iff] at h
  obtain ⟨⟨x, ρ1⟩, h1, h⟩ := h
  rw [Option.map_eq_some_iff] at h
  obtain ⟨xs, h2, h⟩ := h
  cases h
  exact ⟨x, h1, h2⟩
theorem qi_range1 {a : Expr} {m : M (List D)} (hm : X.mg "range" = none) (ha : QA X [a] m) (hg : Gl X "range" := by rfl) (hs : starEach [a] X.env = [(false, eval a X.env)] := by rfl) : QI X tg (.Call (.Name "range" p) [a] [] pos) (iApp rng1 m) := by
  refine PI.imp (pi_range1 hg hm ha hs) fun σ H Q h => ?_
  obtain ⟨R, G, ρ, ds, ρ', rp, e, k⟩ := h
  obtain ⟨xs, h1, h2⟩ := iApp_some e
  refine ⟨R, G, ρ, _, _, rp, h1, fun G1 H1 v1 s1 r1 d1 => ?_⟩
  unfold rng1 at h2
  split at h2
  · split at h2
    · rename_i hb
      cases h2
      cases d1 with
      | cons a b =>
        cases a
        cases b
        exact ⟨_, rfl, hb.1, hb.2, k G1 H1 _ s1 r1 walk_range⟩
    · cases h2
  · cases h2
theorem qi_range2 {a b : Expr} {m : M (List D)} (hm : X.mg "range" = none) (ha : QA X [a, b] m) (hg : Gl X "range" := by rfl) (hs : starEach [a, b] X.env = [(false, eval a X.env), (false, eval b X.env)] := by rfl) (hs2 : starEach [b] X.env = [(false, eval b X.env)] := by rfl) : QI X tg (.Call (.Name "range" p) [a, b] [] pos) (iApp rng2 m) := by
  refine PI.imp (pi_range2 hg hm ha hs hs2) fun σ H Q h => ?_
  obtain ⟨R, G, ρ, ds, ρ', rp, e, k⟩ := h
  obtain ⟨xs, h1, h2⟩ := iApp_some e
  refine ⟨R, G, ρ, _, _, rp, h1, fun G1 H1 v1 s1 r1 d1 => ?_⟩
  unfold rng2 at h2
  split at h2
  · split at h2
    · rename_i hb
      cases h2
      cases d1 with
      | cons a b =>
        cases a
        cases b with
        | cons a b =>
          cases a
          cases b
          exact ⟨_, _, rfl, hb, k G1 H1 _ s1 r1 walk_range⟩
    · cases h2
  · cases h2

/-! ### for -/
theorem qs_for {body : List Stmt} {vs : List Nat} {m : M (List D)} {g : D → Ro → Option Ro} {b : MS} (hi : QI X tg e m) (hg : QG X vs tg g) {W : List Nat} (hb : QSs X W body b) (hp : PassesOwn (model X.prog X.w) X.A X.env X.xe := by exact PassesOwn.never) (hc : X.calm = true := by rfl)
    (hs : ∀ x, foldedSetIterable e X.env x = pure x := by intro _; rfl) : QS X (vs ++ W) (.For tg e body [] pos) (sFor m g b) := by
  refine PS.imp (ps_for hp hc hi hg hb hs) fun E σ H h => ?_
  obtain ⟨R, G, ρ, f, ρ', rp, e, k⟩ := h
  unfold sFor at e
  rw [Option.bind_eq_some_iff] at e
  obtain ⟨⟨xs, ρ1⟩, h1, e⟩ := e
  refine ⟨R, G, ρ, xs, ρ1, rp, h1, fun G1 H1 J s1 r1 wk => ?_⟩
  refine ⟨fun i n σ2 H2 => n = xs.length - i ∧ i ≤ xs.length ∧ Frm (vs ++ W) σ σ2 ∧ ∃ G2 ρ2, Same G1 G2 ∧ Rep X.K R G2 H2 ρ2 σ2 ∧ forM g b (xs.drop i) ρ2 = some (f, ρ'), ⟨xs.length, rfl, Nat.zero_le _, .refl _ _, G1, ρ1, .refl _, r1, e⟩, ?_⟩
  rintro i n σ2 H2 ⟨rfl, hi, fr2, G2, ρ2, s2, r2, e2⟩
  by_cases hlt : i < xs.length
  · right
    have ed : xs.drop i = xs[i] :: xs.drop (i + 1) := List.drop_eq_getElem_cons hlt
    rw [ed] at e2
    unfold forM at e2
    rw [Option.bind_eq_some_iff] at e2
    obtain ⟨ρ3, h3, e2⟩ := e2
    rw [Option.bind_eq_some_iff] at e2
    obtain ⟨⟨f4, ρ4⟩, h4, e2⟩ := e2
    refine ⟨wk.go i G2 H2 s2 r2.subG hlt, fun σ5 H5 => Frm (vs ++ W) σ σ5 ∧ ∃ G5 ρ5, Same G1 G5 ∧ Rep X.K R G5 H5 ρ5 σ5 ∧ forM g b (xs.drop (i + 1)) ρ5 = some (f, ρ'), fun σ5 H5 ⟨fr5, G5, ρ5, s5, r5, e5⟩ => ⟨xs.length - (i + 1), by omega, rfl, hlt, fr5, G5, ρ5, s5, r5, e5⟩, fun x H' hy => ?_⟩
    obtain ⟨G3, g3, d3⟩ := wk.yld i G2 H2 x H' _ s2 r2.subG (List.getElem?_eq_getElem hlt) hy
    refine ⟨R, G3, ρ2, _, ρ3, r2.grow g3, d3, h3, fun σ6 r6 _ j6 => ?_⟩
    refine ⟨R, G3, ρ3, f4, ρ4, r6, h4, ?_⟩
    have s3 : Same G1 G3 := s2.trans g3.gg
    have frm : ∀ σ7, Frm W σ6 σ7 → Frm (vs ++ W) σ σ7 := fun σ7 z => by
      have q : Frm (vs ++ W) σ2 σ7 := Frm.trans j6 z
      have q2 := fr2.trans q
      exact q2.mono fun j hj => by
        simp only [List.mem_append] at hj ⊢
        rcases hj with (h | h) | (h | h)
        · exact .inl h
        · exact .inr h
        · exact .inl h
        · exact .inr h
    cases f4 with
    | nx => exact fun G7 H7 σ7 s7 r7 f7 => ⟨frm σ7 f7, G7, ρ4, s3.trans s7, r7, e2⟩
    | ct => exact fun G7 H7 σ7 s7 r7 f7 => ⟨frm σ7 f7, G7, ρ4, s3.trans s7, r7, e2⟩
    | bk =>
      cases e2
      exact fun G7 H7 σ7 s7 r7 f7 => k G7 H7 σ7 ((s1.trans s3).trans s7) r7 (frm σ7 f7)
    | rt d =>
      cases e2
      exact fun G7 H7 σ7 v s7 r7 f7 => k G7 H7 σ7 v ((s1.trans s3).trans s7) r7 (frm σ7 f7)
  · left
    have ei : i = xs.length := by omega
    subst ei
    rw [List.drop_length] at e2
    cases e2
    exact ⟨wk.stop _ G2 H2 s2 r2.subG (Nat.le_refl _), k G2 H2 σ2 (s1.trans s2) r2 fr2⟩
theorem qs_while {c : Expr} {body : List Stmt} {m : M Bool} {b : MS} {W : List Nat} (fuel : Ro → Nat) (hc : QT X c m) (hb : QSs X W body b) (hp : PassesOwn (model X.prog X.w) X.A X.env X.xe := by exact PassesOwn.never) : QS X W (.While c body [] pos) (sWhile fuel m b) := by
  refine PS.imp (ps_while hp hc hb) fun E σ H h => ?_
  obtain ⟨R, G, ρ, f, ρ', rp, e, k⟩ := h
  unfold sWhile at e
  refine ⟨fun n σ2 H2 => Frm W σ σ2 ∧ ∃ G2 ρ2, Same G G2 ∧ Rep X.K R G2 H2 ρ2 σ2 ∧ whileM m b n ρ2 = some (f, ρ'), ⟨fuel ρ, .refl _ _, G, ρ, .refl _, rp, e⟩, ?_⟩
  rintro n σ2 H2 ⟨fr2, G2, ρ2, s2, r2, e2⟩
  cases n with
  | zero => cases e2
  | succ n =>
    unfold whileM at e2
    rw [Option.bind_eq_some_iff] at e2
    obtain ⟨⟨q, ρ3⟩, h3, e2⟩ := e2
    refine ⟨R, G2, ρ2, q, ρ3, r2, h3, fun G3 H3 s3 r3 => ?_⟩
    cases q with
    | true =>
      rw [if_pos rfl] at e2 ⊢
      rw [Option.bind_eq_some_iff] at e2
      obtain ⟨⟨f4, ρ4⟩, h4, e2⟩ := e2
      have frm : ∀ σ7, Frm W σ2 σ7 → Frm W σ σ7 := fun σ7 z => (fr2.trans z).mono fun j hj => by simpa using hj
      refine ⟨fun σ5 H5 => Frm W σ σ5 ∧ ∃ G5 ρ5, Same G G5 ∧ Rep X.K R G5 H5 ρ5 σ5 ∧ whileM m b n ρ5 = some (f, ρ'), fun σ5 H5 z => ⟨n, Nat.lt_succ_self _, z⟩, R, G3, ρ3, f4, ρ4, r3, h4, ?_⟩
      have s4 : Same G G3 := s2.trans s3
      cases f4 with
      | nx => exact fun G7 H7 σ7 s7 r7 f7 => ⟨frm σ7 f7, G7, ρ4, s4.trans s7, r7, e2⟩
      | ct => exact fun G7 H7 σ7 s7 r7 f7 => ⟨frm σ7 f7, G7, ρ4, s4.trans s7, r7, e2⟩
      | bk =>
        cases e2
        exact fun G7 H7 σ7 s7 r7 f7 => k G7 H7 σ7 (s4.trans s7) r7 (frm σ7 f7)
      | rt d =>
        cases e2
        exact fun G7 H7 σ7 v s7 r7 f7 => k G7 H7 σ7 v (s4.trans s7) r7 (frm σ7 f7)
    | false =>
      rw [if_neg Bool.false_ne_true] at e2 ⊢
      cases e2
      exact k G3 H3 σ2 (s2.trans s3) r3 fr2
end

/-! ### comprehensions -/
def wipeR (ρ : Ro) : List Nat → Ro
  | [] => ρ
  | v :: vs => (wipeR ρ vs).set v .un
theorem wipeR_length (ρ : Ro) : ∀ vs, (wipeR ρ vs).length = ρ.length
  | [] => rfl
  | v :: vs => by unfold wipeR; rw [List.length_set, wipeR_length ρ vs]
theorem Rep.wipe {K : Fr} {R G H : Hp} {ρ : Ro} {σ : St} (r : Rep K R G H ρ σ) : ∀ vs, Rep K R G H (wipeR ρ vs) (L2.wipe σ vs)
  | [] => r
  | v :: vs => by
    unfold wipeR L2.wipe
    exact (Rep.wipe r vs).forget v none
theorem wipe_get (σ : St) : ∀ (vs : List Nat) (j : Nat), (L2.wipe σ vs)[j]? = if j ∈ vs ∧ j < σ.length then some none else σ[j]?
  | [], j => by simp [L2.wipe]
  | v :: vs, j => by
    unfold L2.wipe
    rw [List.getElem?_set, wipe_length, wipe_get σ vs j]
    by_cases h : v = j
    · subst h
      by_cases hl : v < σ.length
      · simp [hl]
      · simp [hl]
    · have : j ≠ v := fun e => h e.symm
      simp [h, this]
theorem wipe_same {σ σ2 : St} {vs : List Nat} (hl : σ2.length = (L2.wipe σ vs).length) (h : ∀ j : Nat, j ∉ vs → σ2[j]? = (L2.wipe σ vs)[j]?) : L2.wipe σ2 vs = L2.wipe σ vs := by
  refine List.ext_getElem? fun j => ?_
  rw [wipe_length] at hl
  rw [wipe_get, wipe_get, hl]
  by_cases hj : j ∈ vs ∧ j < σ.length
  · rw [if_pos hj, if_pos hj]
  · rw [if_neg hj, if_neg hj]
    by_cases hm : j ∈ vs
    · have : ¬ j < σ.length := fun z => hj ⟨hm, z⟩
      rw [List.getElem?_eq_none (by omega), List.getElem?_eq_none (by omega)]
    · rw [h j hm, wipe_get, if_neg hj]
theorem wipe_wipe {σ : St} {vs : List Nat} : ∀ j : Nat, j ∉ vs → (L2.wipe σ vs)[j]? = σ[j]? := fun j hj => by
  rw [wipe_get, if_neg fun z => hj z.1]
/-- what the def's own slots are behind a comprehension: those of its names as they were, where they were data -/
def keepD : Sl → Sl
  | .dat d => .dat d
  | _ => .un
def backR (ρ0 : Ro) (ρ : Ro) : List Nat → Ro
  | [] => ρ
  | v :: vs => (backR ρ0 ρ vs).set v (match ρ0[v]? with | some s => keepD s | none => .un)
theorem backR_rep0 {K : Fr} {R G' H' : Hp} {ρ0 ρ : Ro} {σ : St} (r0 : ∀ (v : Nat) (d : D), ρ0[v]? = some (.dat d) → ∃ x, σ[v]? = some (some x) ∧ Dq K G' x d) : ∀ (vs : List Nat) (ws : List Nat), (∀ v ∈ vs, v ∈ ws) → Rep K R G' H' ρ (L2.wipe σ ws) → Rep K R G' H' (backR ρ0 (wipeR ρ ws) vs) σ := by
  intro vs ws hws r
  -- first: the wiped knowledge holds of σ itself
  have base : Rep K R G' H' (wipeR ρ ws) σ := by
    have hr := r
    have key : ∀ (i : Nat) (s : Sl), (wipeR ρ ws)[i]? = some s → s = .un ∨ (ρ[i]? = some s ∧ (L2.wipe σ ws)[i]? = σ[i]?) := by
      intro i s h
      by_cases hi : i ∈ ws
      · left
        clear r0 r hr hws
        induction ws with
        | nil => cases hi
        | cons v vs ih =>
          unfold wipeR at h
          by_cases hv : v = i
          · subst hv
            rw [List.getElem?_set] at h
            simp only [if_true] at h
            split at h
            · exact (Option.some.inj h).symm
            · cases h
          · rw [List.getElem?_set_ne hv] at h
            exact ih h ((List.mem_cons.mp hi).resolve_left fun e => hv e.symm)
      · right
        refine ⟨?_, wipe_wipe i hi⟩
        clear r0 r hr hws
        induction ws with
        | nil => exact h
        | cons v vs ih =>
          unfold wipeR at h
          rw [List.getElem?_set_ne fun e => hi (by simp [e])] at h
          exact ih h fun z => hi (List.mem_cons_of_mem _ z)
    refine ⟨by rw [wipeR_length, r.len, wipe_length], r.subR, r.subG, r.dis, fun i t h => ?_, fun i j c c' p h1 h2 h3 h4 => ?_⟩
    · rcases key i t h with rfl | ⟨h, e⟩
      · trivial
      · rw [← e]; exact r.slot i t h
    · rcases key i _ h1 with z | ⟨h1, e1⟩
      · cases z
      · rcases key j _ h2 with z | ⟨h2, e2⟩
        · cases z
        · exact r.apart i j c c' p h1 h2 (by rw [e1]; exact h3) (by rw [e2]; exact h4)
  clear r
  induction vs with
  | nil => exact base
  | cons v vs ih =>
    have b := ih fun z hz => hws z (List.mem_cons_of_mem _ hz)
    unfold backR
    cases q : ρ0[v]? with
    | none => exact b.forgetR v
    | some t =>
      cases t with
      | un => exact b.forgetR v
      | scr ns => exact b.forgetR v
      | own c => exact b.forgetR v
      | dat d =>
        obtain ⟨x, e, dx⟩ := r0 v _ q
        have := b.setD (i := v) dx
        have es : σ.set v (some x) = σ := by
          refine List.ext_getElem? fun j => ?_
          rw [List.getElem?_set]
          split
          · rename_i hj
            subst hj
            split
            · exact e.symm
            · rename_i hl
              rw [List.getElem?_eq_none (by omega)]
          · rfl
        rw [es] at this
        exact this
/-- the turns of a comprehension -/
def lcM (vs : List Nat) (g : D → Ro → Option Ro) (t : M Bool) (m : M D) : List D → Ro → List D → Option (List D × Ro)
  | [], ρ, acc => some (acc, ρ)
  | x :: xs, ρ, acc => (g x ρ).bind fun ρ1 => (t ρ1).bind fun q => if q.1 = true then (m q.2).bind fun p => if acc.length < 1000000 then lcM vs g t m xs (wipeR p.2 vs) (acc ++ [p.1]) else none else lcM vs g t m xs (wipeR q.2 vs) acc
def oLc (vs : List Nat) (it : M (List D)) (g : D → Ro → Option Ro) (t : M Bool) (m : M D) : M (List D) := fun ρ => (it ρ).bind fun p => (lcM vs g t m p.1 (wipeR p.2 vs) []).map fun q => (q.1, backR p.2 (wipeR q.2 vs) vs)
def eLc (vs : List Nat) (it : M (List D)) (g : D → Ro → Option Ro) (t : M Bool) (m : M D) : M D := fun ρ => (oLc vs it g t m ρ).map fun q => (.list q.1, q.2)
def wLc (vs : List Nat) (it : M (List D)) (g : D → Ro → Option Ro) (t : M Bool) (m : M D) : M Ow := fun ρ => (oLc vs it g t m ρ).map fun q => (.lst q.1, q.2)
def cTrue : M Bool := fun ρ => some (true, ρ)
abbrev QTs (X : Cx) (es : List Expr) (m : M Bool) : Prop := PTs X es (tMT X.K m)
theorem PTs.imp {X : Cx} {e : List Expr} {t t' : TT} (h : PTs X e t) (w : ∀ σ H Q, t' σ H Q → t σ H Q) : PTs X e t' := ⟨fun pins s σ H Q I q => h.run pins s σ H Q I (w σ H Q q)⟩
theorem qts_nil {X : Cx} : QTs X [] cTrue := PTs.imp pts_nil fun σ H Q h => by
  obtain ⟨R, G, ρ, b, ρ', rp, e, k⟩ := h
  cases e
  exact k G H (.refl _) rp
theorem qts_one {X : Cx} {e : Expr} {m : M Bool} (h : QT X e m) : QTs X [e] m := pts_one h
theorem Rep.dropLast {K : Fr} {R G H : Hp} {ρ : Ro} {σ : St} {s : Sl} {v : Option V} (r : Rep K R G H (ρ ++ [s]) (σ ++ [v])) : Rep K R G H ρ σ := by
  have hl : ρ.length = σ.length := by have := r.len; simp at this; exact this
  refine ⟨hl, r.subR, r.subG, r.dis, fun j t h => ?_, fun j k c c' p h1 h2 h3 h4 => ?_⟩
  · have hj : j < ρ.length := (List.getElem?_eq_some_iff.mp h).1
    have := r.slot j t (by rw [List.getElem?_append_left hj]; exact h)
    rw [List.getElem?_append_left (by rw [← hl]; exact hj)] at this
    exact this
  · have hj : j < ρ.length := (List.getElem?_eq_some_iff.mp h1).1
    have hk : k < ρ.length := (List.getElem?_eq_some_iff.mp h2).1
    exact r.apart j k c c' p (by rw [List.getElem?_append_left hj]; exact h1) (by rw [List.getElem?_append_left hk]; exact h2) (by rw [List.getElem?_append_left (by rw [← hl]; exact hj)]; exact h3) (by rw [List.getElem?_append_left (by rw [← hl]; exact hk)]; exact h4)
/-- an own list that stands last becomes data -/
theorem Rep.freezeLast {K : Fr} {R G H : Hp} {ρ : Ro} {σ : St} {p : Addr} {ds : List D} (r : Rep K R G H (ρ ++ [.own (.lst ds)]) (σ ++ [some (.ref p)])) : ∃ G', Same G G' ∧ Rep K R G' H ρ σ ∧ Dq K G' (.ref p) (.list ds) := by
  have hl : ρ.length = σ.length := by have := r.len; simp at this; exact this
  obtain ⟨q, vs, e, gg, r', x⟩ := r.freeze (i := ρ.length) (ds := ds) (by simp)
  have e1 : (σ ++ [some (V.ref p)])[ρ.length]? = some (some (.ref p)) := by rw [hl]; simp
  rw [e1] at e
  cases e
  have e2 : (ρ ++ [Sl.own (.lst ds)]).set ρ.length (.dat (.list ds)) = ρ ++ [.dat (.list ds)] := by simp
  rw [e2] at r'
  exact ⟨_, gg, r'.dropLast, x⟩
theorem tLc_core {K : Fr} {vs : List Nat} {it : M (List D)} {g : D → Ro → Option Ro} {t : M Bool} {m : M D} {σ : St} {H : Hp} {Q : VK} {R G : Hp} {ρ : Ro} {out : List D} {ρ' : Ro} (rp : Rep K R G H ρ σ) (e : oLc vs it g t m ρ = some (out, ρ'))
    (k : ∀ G' H' p, Same G G' → Rep K R G' H' (ρ' ++ [.own (.lst out)]) (σ ++ [some (.ref p)]) → Q (.ref p) H') : tLc (tMI K it) (tMG K vs g) (tMT K t) (tM K m) vs σ H Q := by
  unfold oLc at e
  rw [Option.bind_eq_some_iff] at e
  obtain ⟨⟨xs, ρ1⟩, h1, e⟩ := e
  rw [Option.map_eq_some_iff] at e
  obtain ⟨⟨out', ρ2⟩, h2, e⟩ := e
  obtain ⟨rfl, rfl⟩ : out' = out ∧ backR ρ1 (wipeR ρ2 vs) vs = ρ' := by cases e; exact ⟨rfl, rfl⟩
  clear e
  refine ⟨R, G, ρ, xs, ρ1, rp, h1, fun G1 H1 J s1 r1 wk Dd hD => ?_⟩
  have hR : R Dd = none := r1.subR.free hD
  -- in the turns the new list is others'
  refine ⟨fun i n H2 => n = xs.length - i ∧ i ≤ xs.length ∧ ∃ G2 ρ2' acc vacc, Same G1 G2 ∧ Rep K (upd R Dd (.lst vacc)) G2 H2 ρ2' (L2.wipe σ vs) ∧ DqAll K G2 vacc acc ∧ lcM vs g t m (xs.drop i) ρ2' acc = some (out', ρ2), ⟨xs.length, rfl, Nat.zero_le _, G1, wipeR ρ1 vs, [], [], .refl _, ?_, .nil, h2⟩, ?_⟩
  · obtain ⟨ho, r3, hc, _⟩ := ((r1.wipe vs).pushNew (c := .lst []) (ho := .lst []) hD .nil).popO
    have : ho = .lst [] := by
      have a := r3.subR Dd ho upd_same
      rw [upd_same] at a
      exact (Option.some.inj a).symm
    subst this
    exact r3
  · rintro i n H2 ⟨rfl, hi, G2, ρ3, acc, vacc, s2, r2, da, e2⟩
    by_cases hlt : i < xs.length
    · right
      have ed : xs.drop i = xs[i] :: xs.drop (i + 1) := List.drop_eq_getElem_cons hlt
      rw [ed] at e2
      unfold lcM at e2
      rw [Option.bind_eq_some_iff] at e2
      obtain ⟨ρ4, h4, e2⟩ := e2
      rw [Option.bind_eq_some_iff] at e2
      obtain ⟨⟨q, ρ5⟩, h5, e2⟩ := e2
      refine ⟨wk.go i G2 H2 s2 r2.subG hlt, fun H5 => ∃ G5 ρ5 acc vacc, Same G1 G5 ∧ Rep K (upd R Dd (.lst vacc)) G5 H5 ρ5 (L2.wipe σ vs) ∧ DqAll K G5 vacc acc ∧ lcM vs g t m (xs.drop (i + 1)) ρ5 acc = some (out', ρ2), fun H5 ⟨G5, ρ5, acc, vacc, s5, r5, d5, e5⟩ => ⟨xs.length - (i + 1), by omega, rfl, hlt, G5, ρ5, acc, vacc, s5, r5, d5, e5⟩, fun x H' hy => ?_⟩
      obtain ⟨G3, g3, d3⟩ := wk.yld i G2 H2 x H' _ s2 r2.subG (List.getElem?_eq_getElem hlt) hy
      refine ⟨_, G3, ρ3, _, ρ4, r2.grow g3, d3, h4, fun σ6 r6 l6 j6 => ⟨wipe_same l6 j6, ?_⟩⟩
      have hw := wipe_same l6 j6
      refine ⟨_, G3, ρ4, q, ρ5, r6, h5, fun G7 H7 s7 r7 => ?_⟩
      have sA : Same G1 G7 := (s2.trans g3.gg).trans s7
      cases q with
      | true =>
        rw [if_pos rfl] at e2
        refine iteT ?_
        rw [Option.bind_eq_some_iff] at e2
        obtain ⟨⟨y, ρ8⟩, h8, e2⟩ := e2
        refine ⟨_, G7, ρ5, y, ρ8, r7, h8, fun G9 H9 v9 s9 r9 d9 => ?_⟩
        split at e2
        · rename_i hlen
          have dacc := DqAll_mono ((g3.gg.trans s7).trans s9) da
          refine ⟨vacc, r9.subR Dd _ upd_same, ?_, G9, wipeR ρ8 vs, acc ++ [y], vacc ++ [v9], sA.trans s9, ?_, dacc.append (.cons d9 .nil), e2⟩
          · rw [da.length]
            exact Nat.lt_of_lt_of_le hlen (by decide)
          · -- the list is written: by way of an own slot
            have w9 := r9.wipe vs
            rw [hw] at w9
            have p1 := w9.pushO (c := .lst acc) dacc hR
            have hl : (wipeR ρ8 vs).length = (L2.wipe σ vs).length := w9.len
            have p2 := p1.write (i := (wipeR ρ8 vs).length) (c := .lst acc) (c' := .lst (acc ++ [y])) (p := Dd) (ho := .lst (vacc ++ [v9])) (by simp) (by rw [hl]; simp) (dacc.append (.cons d9 .nil))
            have e3 : (wipeR ρ8 vs ++ [Sl.own (.lst acc)]).set (wipeR ρ8 vs).length (.own (.lst (acc ++ [y]))) = wipeR ρ8 vs ++ [.own (.lst (acc ++ [y]))] := by simp
            rw [e3] at p2
            obtain ⟨ho, r3, hc, _⟩ := p2.popO
            have : ho = .lst (vacc ++ [v9]) := by
              have a := r3.subR Dd ho upd_same
              rw [upd_same] at a
              exact (Option.some.inj a).symm
            subst this
            exact r3
        · cases e2
      | false =>
        rw [if_neg Bool.false_ne_true] at e2
        refine iteF ?_
        have w9 := r7.wipe vs
        rw [hw] at w9
        exact ⟨G7, wipeR ρ5 vs, acc, vacc, sA, w9, DqAll_mono (g3.gg.trans s7) da, e2⟩
    · left
      have ei : i = xs.length := by omega
      subst ei
      rw [List.drop_length] at e2
      cases e2
      refine ⟨wk.stop _ G2 H2 s2 r2.subG (Nat.le_refl _), k G2 H2 Dd (s1.trans s2) ?_⟩
      refine Rep.pushO (ho := .lst vacc) ?_ da hR
      -- the def's slots again; the new list is others' still
      have r1' : Rep K (upd R Dd (.lst [])) G1 (upd H1 Dd (.lst [])) ρ1 σ := by
        obtain ⟨ho, r3, hc, _⟩ := (r1.pushNew (c := .lst []) (ho := .lst []) hD .nil).popO
        have : ho = .lst [] := by
          have a := r3.subR Dd ho upd_same
          rw [upd_same] at a
          exact (Option.some.inj a).symm
        subst this
        exact r3
      exact backR_rep0 (fun v d hv => by
        obtain ⟨x, ex, dx⟩ := r1.slot v _ hv
        exact ⟨x, ex, Dq_mono s2 dx⟩) vs vs (fun _ z => z) r2
theorem tLc_of {K : Fr} {vs : List Nat} {it : M (List D)} {g : D → Ro → Option Ro} {t : M Bool} {m : M D} {σ : St} {H : Hp} {Q : VK} (h : tM K (eLc vs it g t m) σ H Q) : tLc (tMI K it) (tMG K vs g) (tMT K t) (tM K m) vs σ H Q := by
  obtain ⟨R, G, ρ, d, ρ', rp, e, k⟩ := h
  unfold eLc at e
  rw [Option.map_eq_some_iff] at e
  obtain ⟨⟨out, ρ1⟩, h1, e⟩ := e
  cases e
  refine tLc_core rp h1 fun G' H' p s r => ?_
  obtain ⟨G2, s2, r2, d2⟩ := r.freezeLast
  exact k G2 H' _ (s.trans s2) r2 d2
theorem tLcO_of {K : Fr} {vs : List Nat} {it : M (List D)} {g : D → Ro → Option Ro} {t : M Bool} {m : M D} {σ : St} {H : Hp} {Q : VK} (h : tMO K (wLc vs it g t m) σ H Q) : tLc (tMI K it) (tMG K vs g) (tMT K t) (tM K m) vs σ H Q := by
  obtain ⟨R, G, ρ, d, ρ', rp, e, k⟩ := h
  unfold wLc at e
  rw [Option.map_eq_some_iff] at e
  obtain ⟨⟨out, ρ1⟩, h1, e⟩ := e
  cases e
  exact tLc_core rp h1 k
section
variable {X : Cx} {elt tg iter : Expr} {ifs : List Expr} {scope : Scope} {pos py spos : Pos} {it : M (List D)} {g : D → Ro → Option Ro} {t : M Bool} {m : M D}
theorem qe_lc (own : List (Str × Nat)) (hN : X.N.Nodup) (hi : QI X tg iter it) (ok : BlkOk X.N X.env.scope scope own)
    (hg : ∀ (s : Shared) (H : Hp) (C : Addr) (cl : List (Str × Addr)) (fp : List Addr), QG (X.blk s H scope (compEnvC scope cl C X.env) fp) (own.map (·.2)) tg g) (ht : ∀ (s : Shared) (H : Hp) (C : Addr) (cl : List (Str × Addr)) (fp : List Addr), QTs (X.blk s H scope (compEnvC scope cl C X.env) fp) ifs t)
    (he : ∀ (s : Shared) (H : Hp) (C : Addr) (cl : List (Str × Addr)) (fp : List Addr), QE (X.blk s H scope (compEnvC scope cl C X.env) fp) elt m) (hc : X.calm = true := by rfl) (hs : ∀ x, foldedSetIterable iter X.env x = pure x := by intro _; rfl) :
    QE X (.ListComp elt [⟨tg, iter, ifs, 0⟩] scope pos) (eLc (own.map (·.2)) it g t m) := PE.imp (pe_lc hc hN hi ok hg ht he hs) fun _ _ _ h => tLc_of h
theorem qo_lc (own : List (Str × Nat)) (hN : X.N.Nodup) (hi : QI X tg iter it) (ok : BlkOk X.N X.env.scope scope own)
    (hg : ∀ (s : Shared) (H : Hp) (C : Addr) (cl : List (Str × Addr)) (fp : List Addr), QG (X.blk s H scope (compEnvC scope cl C X.env) fp) (own.map (·.2)) tg g) (ht : ∀ (s : Shared) (H : Hp) (C : Addr) (cl : List (Str × Addr)) (fp : List Addr), QTs (X.blk s H scope (compEnvC scope cl C X.env) fp) ifs t)
    (he : ∀ (s : Shared) (H : Hp) (C : Addr) (cl : List (Str × Addr)) (fp : List Addr), QE (X.blk s H scope (compEnvC scope cl C X.env) fp) elt m) (hc : X.calm = true := by rfl) (hs : ∀ x, foldedSetIterable iter X.env x = pure x := by intro _; rfl) :
    QO X (.ListComp elt [⟨tg, iter, ifs, 0⟩] scope pos) (wLc (own.map (·.2)) it g t m) := PE.imp (pe_lc hc hN hi ok hg ht he hs) fun _ _ _ h => tLcO_of h
theorem qs_setLc (i : Nat) {y : Str} (own : List (Str × Nat)) (hN : X.N.Nodup) (hi : QI X tg iter it) (ok : BlkOk X.N X.env.scope scope own)
    (hg : ∀ (s : Shared) (H : Hp) (C : Addr) (cl : List (Str × Addr)) (fp : List Addr), QG (X.blk s H scope (compEnvC scope cl C X.env) fp) (own.map (·.2)) tg g) (ht : ∀ (s : Shared) (H : Hp) (C : Addr) (cl : List (Str × Addr)) (fp : List Addr), QTs (X.blk s H scope (compEnvC scope cl C X.env) fp) ifs t)
    (he : ∀ (s : Shared) (H : Hp) (C : Addr) (cl : List (Str × Addr)) (fp : List Addr), QE (X.blk s H scope (compEnvC scope cl C X.env) fp) elt m)
    (hsw : swapsWith (.ListComp elt [⟨tg, iter, ifs, 0⟩] scope pos) (some (.Name y py)) spos.line X.env = pure true := by exact sw_true rfl rfl rfl (by decide +kernel)) (hc : X.calm = true := by rfl) (hy : X.N[i]? = some y := by rfl) (hyl : X.env.scope.names.lookup y = some .local := by rfl) (hs : ∀ x, foldedSetIterable iter X.env x = pure x := by intro _; rfl) :
    QS X [i] (.Assign [.Name y py] (.ListComp elt [⟨tg, iter, ifs, 0⟩] scope pos) spos) (sAsg (eLc (own.map (·.2)) it g t m) (gSet i)) := by
  refine PS.imp (ps_setLc (g := tMG X.K (own.map (·.2)) g) (tt := tMT X.K t) (te := tM X.K m) hc hN hy hyl hsw hi ok hg ht he hs) fun E σ H h => ?_
  obtain ⟨R, G, ρ, f, ρ', rp, e, k⟩ := h
  unfold sAsg at e
  rw [Option.bind_eq_some_iff] at e
  obtain ⟨⟨x, ρ1⟩, h1, e⟩ := e
  cases e
  exact tLc_of ⟨R, G, ρ, x, ρ1, rp, h1, fun G1 H1 v1 s1 r1 d1 => k G1 H1 _ s1 (r1.setD d1) (fun j hj => List.getElem?_set_ne fun z => hj (by simp [z]))⟩
theorem qs_ownLc (i : Nat) {y : Str} (own : List (Str × Nat)) (hN : X.N.Nodup) (hi : QI X tg iter it) (ok : BlkOk X.N X.env.scope scope own)
    (hg : ∀ (s : Shared) (H : Hp) (C : Addr) (cl : List (Str × Addr)) (fp : List Addr), QG (X.blk s H scope (compEnvC scope cl C X.env) fp) (own.map (·.2)) tg g) (ht : ∀ (s : Shared) (H : Hp) (C : Addr) (cl : List (Str × Addr)) (fp : List Addr), QTs (X.blk s H scope (compEnvC scope cl C X.env) fp) ifs t)
    (he : ∀ (s : Shared) (H : Hp) (C : Addr) (cl : List (Str × Addr)) (fp : List Addr), QE (X.blk s H scope (compEnvC scope cl C X.env) fp) elt m)
    (hsw : swapsWith (.ListComp elt [⟨tg, iter, ifs, 0⟩] scope pos) (some (.Name y py)) spos.line X.env = pure true := by exact sw_true rfl rfl rfl (by decide +kernel)) (hc : X.calm = true := by rfl) (hy : X.N[i]? = some y := by rfl) (hyl : X.env.scope.names.lookup y = some .local := by rfl) (hs : ∀ x, foldedSetIterable iter X.env x = pure x := by intro _; rfl) :
    QS X [i] (.Assign [.Name y py] (.ListComp elt [⟨tg, iter, ifs, 0⟩] scope pos) spos) (sOwn i (wLc (own.map (·.2)) it g t m)) := by
  refine PS.imp (ps_setLc (g := tMG X.K (own.map (·.2)) g) (tt := tMT X.K t) (te := tM X.K m) hc hN hy hyl hsw hi ok hg ht he hs) fun E σ H h => ?_
  obtain ⟨R, G, ρ, f, ρ', rp, e, k⟩ := h
  unfold sOwn at e
  rw [Option.map_eq_some_iff] at e
  obtain ⟨⟨x, ρ1⟩, h1, e⟩ := e
  cases e
  exact tLcO_of (K := X.K) ⟨R, G, ρ, x, ρ1, rp, h1, fun G1 H1 p s1 r1 => k G1 H1 _ s1 (r1.moveO i) (fun j hj => List.getElem?_set_ne fun z => hj (by simp [z]))⟩
end
end QL
set_option Elab.async false
set_option linter.all false
set_option maxRecDepth 100000
set_option maxHeartbeats 1000000
namespace QL
open PySem PySem.Spec PyProof.Rows L2

/-! ### operations on data -/
instance (a b : Int) : Decidable (IntMulOk a b) := by unfold IntMulOk; exact inferInstance
def dAdd : D → D → Option D
  | .int a, .int b => some (.int (a + b))
  | .list a, .list b => if a.length + b.length ≤ 1000000 then some (.list (a ++ b)) else none
  | .tuple a, .tuple b => if a ≠ [] ∧ b ≠ [] ∧ a.length + b.length ≤ 1000000 then some (.tuple (a ++ b)) else none
  | .str a, .str b => if a.length + b.length ≤ 1000000 then some (.str (a ++ b)) else none
  | _, _ => none
def dSub : D → D → Option D
  | .int a, .int b => some (.int (a - b))
  | _, _ => none
def dMul : D → D → Option D
  | .int a, .int b => if IntMulOk a b then some (.int (a * b)) else none
  | .list a, .int k => if 0 ≤ k ∧ k ≤ 1000 ∧ a.length ≤ 1000 then some (.list (List.replicate k.toNat a).flatten) else none
  | .tuple a, .int k => if a ≠ [] ∧ 2 ≤ k ∧ k ≤ 1000 ∧ a.length ≤ 1000 then some (.tuple (List.replicate k.toNat a).flatten) else none
  | _, _ => none
def dMod : D → D → Option D
  | .int a, .int b => if b ≠ 0 then some (.int (a.fmod b)) else none
  | _, _ => none
def dDiv : D → D → Option D
  | .int a, .int b => if b ≠ 0 ∧ Builtin.divisionGoesByPylong a b = false then some (.int (a.fdiv b)) else none
  | _, _ => none
def dPow : D → D → Option D
  | .int a, .int b => if 0 ≤ b ∧ b ≤ 1000000 ∧ a.natAbs < 2 ^ 64 then some (.int (a ^ b.toNat)) else none
  | _, _ => none
def dLt : D → D → Option D
  | .int a, .int b => some (.bool (decide (a < b)))
  | _, _ => none
def dLe : D → D → Option D
  | .int a, .int b => some (.bool (decide (a ≤ b)))
  | _, _ => none
def dGt : D → D → Option D
  | .int a, .int b => some (.bool (decide (b < a)))
  | _, _ => none
def dGe : D → D → Option D
  | .int a, .int b => some (.bool (decide (b ≤ a)))
  | _, _ => none
def dEq (x y : D) : Option D := if SeqAt.shaped x = true ∧ SeqAt.shaped y = true then some (.bool (PyData.eqv x y)) else none
def dNe (x y : D) : Option D := if SeqAt.shaped x = true ∧ SeqAt.shaped y = true then some (.bool (!PyData.eqv x y)) else none
def dIs : D → D → Option D
  | .bool a, .bool b => some (.bool (decide (a = b)))
  | .none, .none => some (.bool true)
  | .bool _, .none => some (.bool false)
  | .int _, .none => some (.bool false)
  | .str _, .none => some (.bool false)
  | .list _, .none => some (.bool false)
  | .tuple _, .none => some (.bool false)
  | _, _ => none
def dIsNot (x y : D) : Option D := (dIs x y).bind fun d => match d with
  | .bool b => some (.bool (!b))
  | _ => none
def dIx : D → D → Option D
  | .list a, .int i => atI a i
  | .tuple a, .int i => atI a i
  | _, _ => none
def flatD : D → Bool
  | .none => true
  | .bool _ => true
  | .int _ => true
  | .str _ => true
  | _ => false
def toV : D → V
  | .none => .non
  | .bool b => .bl b
  | .int i => .int i
  | .str s => .str s
  | _ => .non
def dIn (x y : D) : Option D := (asSeq y).bind fun ys => if flatD x && ys.all flatD then some (.bool (inV (toV x) (ys.map toV))) else none
def dNotIn (x y : D) : Option D := (asSeq y).bind fun ys => if flatD x && ys.all flatD then some (.bool (!inV (toV x) (ys.map toV))) else none

section
variable {K : Fr}
theorem opD_int {C : Int → Int → Prop} {g : Int → Int → V} {f : D → D → Option D} (h : ∀ dx dy d, f dx dy = some d → ∃ i j, dx = .int i ∧ dy = .int j ∧ C i j ∧ ∀ G, Dq K G (g i j) d) : OpD K (rI C g) f := by
  intro G H x y dx dy d Q s hx hy e k
  obtain ⟨i, j, rfl, rfl, c, hd⟩ := h dx dy d e
  cases hx
  cases hy
  exact ⟨i, j, rfl, rfl, c, k G H _ (Gr.refl s) (hd G)⟩
theorem opD_int0 {g : Int → Int → V} {f : D → D → Option D} (h : ∀ dx dy d, f dx dy = some d → ∃ i j, dx = .int i ∧ dy = .int j ∧ ∀ G, Dq K G (g i j) d) : OpD K (rI0 g) f := by
  intro G H x y dx dy d Q s hx hy e k
  obtain ⟨i, j, rfl, rfl, hd⟩ := h dx dy d e
  cases hx
  cases hy
  exact ⟨i, j, rfl, rfl, k G H _ (Gr.refl s) (hd G)⟩
theorem d_sub : OpD K (rI0 fun i j => .int (i - j)) dSub := opD_int0 fun dx dy d e => by
  unfold dSub at e; split at e
  · cases e; exact ⟨_, _, rfl, rfl, fun _ => .int _⟩
  · cases e
theorem d_mod : OpD K (rI (fun _ j => j ≠ 0) fun i j => .int (i.fmod j)) dMod := opD_int fun dx dy d e => by
  unfold dMod at e; split at e
  · split at e
    · rename_i h; cases e; exact ⟨_, _, rfl, rfl, h, fun _ => .int _⟩
    · cases e
  · cases e
theorem d_pow : OpD K (rI CPow fun i j => .int (i ^ j.toNat)) dPow := opD_int fun dx dy d e => by
  unfold dPow at e; split at e
  · split at e
    · rename_i h; cases e; exact ⟨_, _, rfl, rfl, h, fun _ => .int _⟩
    · cases e
  · cases e
def CDivX (i j : Int) : Prop := j ≠ 0 ∧ Builtin.divisionGoesByPylong i j = false
theorem op_fdivX {X : Cx} : OpR X (binaryOp .FloorDiv) (rI CDivX fun i j => .int (i.fdiv j)) := opI fun i j _ _ _ _ _ hc q => floordiv_int hc.1 q (.inl hc.2)
theorem d_div : OpD K (rI CDivX fun i j => .int (i.fdiv j)) dDiv := opD_int fun dx dy d e => by
  unfold dDiv at e; split at e
  · split at e
    · rename_i h; cases e; exact ⟨_, _, rfl, rfl, h, fun _ => .int _⟩
    · cases e
  · cases e
theorem d_lt : OpD K (rI0 fun i j => .bl (decide (i < j))) dLt := opD_int0 fun dx dy d e => by
  unfold dLt at e; split at e
  · cases e; exact ⟨_, _, rfl, rfl, fun _ => .bl _⟩
  · cases e
theorem d_le : OpD K (rI0 fun i j => .bl (decide (i ≤ j))) dLe := opD_int0 fun dx dy d e => by
  unfold dLe at e; split at e
  · cases e; exact ⟨_, _, rfl, rfl, fun _ => .bl _⟩
  · cases e
theorem d_gt : OpD K (rI0 fun i j => .bl (decide (j < i))) dGt := opD_int0 fun dx dy d e => by
  unfold dGt at e; split at e
  · cases e; exact ⟨_, _, rfl, rfl, fun _ => .bl _⟩
  · cases e
theorem d_ge : OpD K (rI0 fun i j => .bl (decide (j ≤ i))) dGe := opD_int0 fun dx dy d e => by
  unfold dGe at e; split at e
  · cases e; exact ⟨_, _, rfl, rfl, fun _ => .bl _⟩
  · cases e
theorem d_eq : OpD K (rEqD K) dEq := by
  intro G H x y dx dy d Q s hx hy e k
  unfold dEq at e
  split at e
  · rename_i h
    cases e
    exact ⟨dx, dy, Dq.dp s hx, Dq.dp s hy, h.1, h.2, k G H _ (Gr.refl s) (.bl _)⟩
  · cases e
theorem d_ne : OpD K (rNeD K) dNe := by
  intro G H x y dx dy d Q s hx hy e k
  unfold dNe at e
  split at e
  · rename_i h
    cases e
    exact ⟨dx, dy, Dq.dp s hx, Dq.dp s hy, h.1, h.2, k G H _ (Gr.refl s) (.bl _)⟩
  · cases e
/-- + -/
abbrev rAddA (K : Fr) : R2 := fun x y H Q => (rI0 fun i j => .int (i + j)) x y H Q ∨ (rCat x y H Q ∨ (rCatT K x y H Q ∨ (∃ i j, x = V.str i ∧ y = V.str j ∧ i.length + j.length ≤ sizeLine ∧ Q (.str (i ++ j)) H)))
theorem op_addA {X : Cx} : OpR X (binaryOp .Add) (rAddA X.K) := op_add.or (op_cat.or (op_catT.or op_add_str))
theorem d_add : OpD K (rAddA K) dAdd := by
  intro G H x y dx dy d Q s hx hy e k
  unfold dAdd at e
  split at e
  · cases e; cases hx; cases hy
    exact .inl ⟨_, _, rfl, rfl, k G H _ (Gr.refl s) (.int _)⟩
  · split at e
    · rename_i hl
      cases e
      cases hx with
      | lst h1 a1 =>
        cases hy with
        | lst h2 a2 =>
          refine .inr (.inl ⟨_, _, _, _, rfl, rfl, s _ _ h1, s _ _ h2, by rw [a1.length, a2.length]; exact size_of hl, fun p hp => k _ _ _ (Gr.new s hp) ?_⟩)
          exact .lst upd_same (DqAll_mono (Gr.new s hp).gg (a1.append a2))
    · cases e
  · split at e
    · rename_i hl
      cases e
      cases hx with
      | tup h1 a1 =>
        cases hy with
        | tup h2 a2 =>
          have ne : ∀ {vs : List V} {ds : List D}, DqAll K G vs ds → ds ≠ [] → vs ≠ [] := fun a h z => by
            subst z; cases a; exact h rfl
          refine .inr (.inr (.inl ⟨_, _, _, _, rfl, rfl, SqT_mono s h1, SqT_mono s h2, ne a1 hl.1, by rw [a1.length, a2.length]; exact size_of hl.2.2, fun z => absurd z (ne a2 hl.2.1), fun _ p hp => k _ _ _ (Gr.new s hp) ?_⟩))
          exact .tup (SqT.of upd_same) (DqAll_mono (Gr.new s hp).gg (a1.append a2))
    · cases e
  · split at e
    · rename_i hl
      cases e
      cases hx
      cases hy
      exact .inr (.inr (.inr ⟨_, _, rfl, rfl, size_of hl, k G H _ (Gr.refl s) (.str _)⟩))
    · cases e
  · cases e
theorem DqAll.rep {G : Hp} {vs : List V} {ds : List D} (h : DqAll K G vs ds) : ∀ k : Nat, DqAll K G (List.replicate k vs).flatten (List.replicate k ds).flatten
  | 0 => .nil
  | k + 1 => by
    rw [List.replicate_succ, List.replicate_succ, List.flatten_cons, List.flatten_cons]
    exact h.append (DqAll.rep h k)
/-- * -/
abbrev rMulA (K : Fr) : R2 := fun x y H Q => (rI IntMulOk fun i j => .int (i * j)) x y H Q ∨ (rRep x y H Q ∨ rRepT K x y H Q)
theorem op_mulA {X : Cx} : OpR X (binaryOp .Mult) (rMulA X.K) := (opI fun _ _ _ _ _ _ _ hc q => mul_int q hc).or (op_rep.or op_repT)
theorem d_mul : OpD K (rMulA K) dMul := by
  intro G H x y dx dy d Q s hx hy e k
  unfold dMul at e
  split at e
  · split at e
    · rename_i hc
      cases e; cases hx; cases hy
      exact .inl ⟨_, _, rfl, rfl, hc, k G H _ (Gr.refl s) (.int _)⟩
    · cases e
  · split at e
    · rename_i hl
      cases e
      cases hx with
      | lst h1 a1 =>
        cases hy
        refine .inr (.inl ⟨_, _, _, rfl, rfl, s _ _ h1, by omega, by omega, ?_, fun p hp => k _ _ _ (Gr.new s hp) ?_⟩)
        · rw [a1.length]
          refine size_of (Nat.le_trans (Nat.mul_le_mul hl.2.2 (show Int.toNat _ ≤ 1000 by omega)) (by decide))
        · exact .lst upd_same (DqAll_mono (Gr.new s hp).gg (a1.rep _))
    · cases e
  · split at e
    · rename_i hl
      cases e
      cases hx with
      | tup h1 a1 =>
        cases hy
        refine .inr (.inr ⟨_, _, _, rfl, rfl, SqT_mono s h1, fun z => ?_, hl.2.1, hl.2.2.1, by rw [a1.length]; exact hl.2.2.2, fun p hp => k _ _ _ (Gr.new s hp) ?_⟩)
        · subst z; cases a1; exact hl.1 rfl
        · exact .tup (SqT.of upd_same) (DqAll_mono (Gr.new s hp).gg (a1.rep _))
    · cases e
  · cases e
/-- is, is not -/
abbrev rIsA : R2 := fun x y H Q => rIsB x y H Q ∨ (y = .non ∧ Q (.bl (decide (x = .non))) H)
abbrev rIsNotA : R2 := fun x y H Q => rNotB x y H Q ∨ (y = .non ∧ Q (.bl (!decide (x = .non))) H)
theorem op_isA {X : Cx} : OpR X (compareOp .Is) rIsA := op_isBl.or op_isN
theorem op_isNotA {X : Cx} : OpR X (compareOp .IsNot) rIsNotA := op_notBl.or op_notN
theorem d_is : OpD K rIsA dIs := by
  intro G H x y dx dy d Q s hx hy e k
  unfold dIs at e
  split at e <;> first | (cases e; done) | skip
  · cases e; cases hx; cases hy
    exact .inl ⟨_, _, rfl, rfl, k G H _ (Gr.refl s) (.bl _)⟩
  all_goals
    cases e; cases hx; cases hy
    refine .inr ⟨rfl, ?_⟩
    exact k G H _ (Gr.refl s) (.bl _)
theorem d_isNot : OpD K rIsNotA dIsNot := by
  intro G H x y dx dy d Q s hx hy e k
  unfold dIsNot at e
  rw [Option.bind_eq_some_iff] at e
  obtain ⟨z, h, e⟩ := e
  unfold dIs at h
  split at h <;> first | (cases h; done) | skip
  · cases h; cases e; cases hx; cases hy
    exact .inl ⟨_, _, rfl, rfl, k G H _ (Gr.refl s) (.bl _)⟩
  all_goals
    cases h; cases e; cases hx; cases hy
    refine .inr ⟨rfl, ?_⟩
    exact k G H _ (Gr.refl s) (.bl _)
/-- in -/
theorem toV_eq {G : Hp} {v : V} {d : D} (h : Dq K G v d) (f : flatD d = true) : toV d = v ∧ flatV v = true := by
  cases h <;> first | exact ⟨rfl, rfl⟩ | cases f
theorem toV_all {G : Hp} : ∀ {vs : List V} {ds : List D}, DqAll K G vs ds → ds.all flatD = true → ds.map toV = vs ∧ vs.all flatV = true
  | _, _, .nil, _ => ⟨rfl, rfl⟩
  | _, _, .cons h t, f => by
    rw [List.all_cons, Bool.and_eq_true] at f
    obtain ⟨a, b⟩ := toV_eq h f.1
    obtain ⟨c, d⟩ := toV_all t f.2
    exact ⟨by rw [List.map_cons, a, c], by rw [List.all_cons, b, d]; rfl⟩
theorem d_in : OpD K (rIn K false) dIn := by
  intro G H x y dx dy d Q s hx hy e k
  unfold dIn at e
  rw [Option.bind_eq_some_iff] at e
  obtain ⟨ys, h, e⟩ := e
  split at e
  · rename_i hf
    cases e
    rw [Bool.and_eq_true] at hf
    obtain ⟨a, b⟩ := toV_eq hx hf.1
    cases dy <;> cases h
    · cases hy with
      | lst h1 a1 =>
        obtain ⟨c, d⟩ := toV_all a1 hf.2
        refine ⟨_, _, rfl, .inl (SqL.of (s _ _ h1)), b, d, ?_⟩
        rw [a, c] at k
        exact k G H _ (Gr.refl s) (.bl _)
    · cases hy with
      | tup h1 a1 =>
        obtain ⟨c, d⟩ := toV_all a1 hf.2
        refine ⟨_, _, rfl, .inr (SqT_mono s h1), b, d, ?_⟩
        rw [a, c] at k
        exact k G H _ (Gr.refl s) (.bl _)
  · cases e
theorem d_notIn : OpD K (rIn K true) dNotIn := by
  intro G H x y dx dy d Q s hx hy e k
  unfold dNotIn at e
  rw [Option.bind_eq_some_iff] at e
  obtain ⟨ys, h, e⟩ := e
  split at e
  · rename_i hf
    cases e
    rw [Bool.and_eq_true] at hf
    obtain ⟨a, b⟩ := toV_eq hx hf.1
    cases dy <;> cases h
    · cases hy with
      | lst h1 a1 =>
        obtain ⟨c, d⟩ := toV_all a1 hf.2
        refine ⟨_, _, rfl, .inl (SqL.of (s _ _ h1)), b, d, ?_⟩
        rw [a, c] at k
        exact k G H _ (Gr.refl s) (.bl _)
    · cases hy with
      | tup h1 a1 =>
        obtain ⟨c, d⟩ := toV_all a1 hf.2
        refine ⟨_, _, rfl, .inr (SqT_mono s h1), b, d, ?_⟩
        rw [a, c] at k
        exact k G H _ (Gr.refl s) (.bl _)
  · cases e
/-- a[i] -/
theorem atI_rel {G : Hp} {vs : List V} {ds : List D} {i : Int} {d : D} (h : DqAll K G vs ds) (e : atI ds i = some d) : ∃ v, atI vs i = some v ∧ Dq K G v d := by
  unfold atI at e ⊢
  rw [h.length]
  rw [Option.bind_eq_some_iff] at e
  obtain ⟨j, h1, e⟩ := e
  obtain ⟨v, h2, h3⟩ := h.get e
  exact ⟨v, by rw [h1]; exact h2, h3⟩
abbrev rIxA (K : Fr) : R2 := fun x y H Q => rIxL K x y H Q ∨ rIxT K x y H Q
theorem ix_A {X : Cx} : IxR X (rIxA X.K) := ix_list.or ix_tup
theorem d_ix : OpD K (rIxA K) dIx := by
  intro G H x y dx dy d Q s hx hy e k
  unfold dIx at e
  split at e
  · cases hy
    cases hx with
    | lst h1 a1 =>
      obtain ⟨v, h2, h3⟩ := atI_rel a1 e
      exact .inl ⟨_, _, _, v, rfl, rfl, SqL.of (s _ _ h1), h2, k G H _ (Gr.refl s) h3⟩
  · cases hy
    cases hx with
    | tup h1 a1 =>
      obtain ⟨v, h2, h3⟩ := atI_rel a1 e
      exact .inr ⟨_, _, _, v, rfl, rfl, SqT_mono s h1, h2, k G H _ (Gr.refl s) h3⟩
  · cases e
end
section
variable {X : Cx} {a b : Expr} {pos : Pos} {m n : M D}
theorem qe_add (ha : QE X a m) (hb : QE X b n) : QE X (.BinOp a .Add b pos) (eOp2 dAdd m n) := qe_op op_addA d_add ha hb
theorem qe_sub (ha : QE X a m) (hb : QE X b n) : QE X (.BinOp a .Sub b pos) (eOp2 dSub m n) := qe_op op_sub d_sub ha hb
theorem qe_mul (ha : QE X a m) (hb : QE X b n) : QE X (.BinOp a .Mult b pos) (eOp2 dMul m n) := qe_op op_mulA d_mul ha hb
theorem qe_mod (ha : QE X a m) (hb : QE X b n) : QE X (.BinOp a .Mod b pos) (eOp2 dMod m n) := qe_op op_modN d_mod ha hb
theorem qe_div (ha : QE X a m) (hb : QE X b n) : QE X (.BinOp a .FloorDiv b pos) (eOp2 dDiv m n) := qe_op op_fdivX d_div ha hb
theorem qe_pow (ha : QE X a m) (hb : QE X b n) : QE X (.BinOp a .Pow b pos) (eOp2 dPow m n) := qe_op op_pow d_pow ha hb
theorem qe_ix (ha : QE X a m) (hb : QE X b n) (hs : PlainIx b := by exact fun _ _ => rfl) : QE X (.Subscript a b pos) (eOp2 dIx m n) := PE.imp (pe_ix ix_A ha hb hs) fun _ _ _ h => tOp_of d_ix h
def eNeg (a : M D) : M D := eOp1 (fun d => match d with | .int i => some (.int (-i)) | _ => none) a
theorem qe_neg (ha : QE X a m) : QE X (.UnaryOp .USub a pos) (eNeg m) := by
  refine PE.imp (pe_un un_neg ha) fun σ H Q h => ?_
  obtain ⟨R, G, ρ, d, ρ', rp, e, k⟩ := h
  unfold eNeg eOp1 at e
  rw [Option.bind_eq_some_iff] at e
  obtain ⟨⟨x, ρ1⟩, h1, e⟩ := e
  rw [Option.map_eq_some_iff] at e
  obtain ⟨z, h2, e⟩ := e
  cases e
  refine ⟨R, G, ρ, x, _, rp, h1, fun G1 H1 v1 s1 r1 d1 => ?_⟩
  cases x <;> cases h2
  cases d1
  exact ⟨_, rfl, k G1 H1 _ s1 r1 (.int _)⟩
end

/-! ### calls of built-ins -/
def dLen : List D → Option D
  | [.list a] => some (.int a.length)
  | [.tuple a] => some (.int a.length)
  | _ => none
def dAbs : List D → Option D
  | [.int i] => some (.int (if i < 0 then -i else i))
  | _ => none
def dMin : List D → Option D
  | [.int i, .int j] => some (.int (if j < i then j else i))
  | _ => none
def dMax : List D → Option D
  | [.int i, .int j] => some (.int (if j > i then j else i))
  | _ => none
def bools : List D → Option (List Bool)
  | [] => some []
  | .bool b :: r => (bools r).map fun x => b :: x
  | _ => none
def intsOf : List D → Option (List Int)
  | [] => some []
  | .int b :: r => (intsOf r).map fun x => b :: x
  | _ => none
def dAll : List D → Option D
  | [.list a] => (bools a).map fun bs => .bool (bs.all id)
  | _ => none
def dAny : List D → Option D
  | [.list a] => (bools a).map fun bs => .bool (bs.any id)
  | _ => none
def dSum : List D → Option D
  | [.list a] => (intsOf a).map fun ns => .int ns.sum
  | _ => none
def dList : List D → Option D
  | [.list a] => some (.list a)
  | [.tuple a] => some (.list a)
  | _ => none
def dTuple : List D → Option D
  | [.list a] => some (.tuple a)
  | [.tuple a] => some (.tuple a)
  | _ => none
def dSortedI : List D → Option D
  | [.list a] => (intsOf a).map fun ns => .list ((ns.mergeSort (· ≤ ·)).map .int)
  | _ => none
def dInt : List D → Option D
  | [.int a] => some (.int a)
  | [.bool b] => some (.int (if b then 1 else 0))
  | _ => none
section
variable {K : Fr}
theorem one_of {G : Hp} {vs : List V} {d : D} (h : DqAll K G vs [d]) : ∃ v, vs = [v] ∧ Dq K G v d := by
  cases h with
  | cons a b => cases b; exact ⟨_, rfl, a⟩
theorem two_of {G : Hp} {vs : List V} {d e : D} (h : DqAll K G vs [d, e]) : ∃ v w, vs = [v, w] ∧ Dq K G v d ∧ Dq K G w e := by
  cases h with
  | cons a b =>
    obtain ⟨w, rfl, h⟩ := one_of b
    exact ⟨_, _, rfl, a, h⟩
theorem d_len : CallD K (fun xs H Q => ∃ p ys, xs = [.ref p] ∧ (SqL K H p ys ∨ SqT K H p ys) ∧ Q (.int ys.length) H) dLen := by
  intro G H vs ds d Q s h e k
  unfold dLen at e
  split at e
  · cases e
    obtain ⟨v, rfl, hd⟩ := one_of h
    cases hd with
    | lst h1 a1 => exact ⟨_, _, rfl, .inl (SqL.of (s _ _ h1)), by rw [a1.length]; exact k G H _ (Gr.refl s) (.int _)⟩
  · cases e
    obtain ⟨v, rfl, hd⟩ := one_of h
    cases hd with
    | tup h1 a1 => exact ⟨_, _, rfl, .inr (SqT_mono s h1), by rw [a1.length]; exact k G H _ (Gr.refl s) (.int _)⟩
  · cases e
theorem d_abs : CallD K (fun xs H Q => ∃ i, xs = [V.int i] ∧ Q (.int (if i < 0 then -i else i)) H) dAbs := by
  intro G H vs ds d Q s h e k
  unfold dAbs at e
  split at e
  · cases e
    obtain ⟨v, rfl, hd⟩ := one_of h
    cases hd
    exact ⟨_, rfl, k G H _ (Gr.refl s) (.int _)⟩
  · cases e
theorem d_min : CallD K (fun xs H Q => ∃ i j, xs = [V.int i, .int j] ∧ Q (.int (if j < i then j else i)) H) dMin := by
  intro G H vs ds d Q s h e k
  unfold dMin at e
  split at e
  · cases e
    obtain ⟨v, w, rfl, h1, h2⟩ := two_of h
    cases h1; cases h2
    exact ⟨_, _, rfl, k G H _ (Gr.refl s) (.int _)⟩
  · cases e
theorem d_max : CallD K (fun xs H Q => ∃ i j, xs = [V.int i, .int j] ∧ Q (.int (if j > i then j else i)) H) dMax := by
  intro G H vs ds d Q s h e k
  unfold dMax at e
  split at e
  · cases e
    obtain ⟨v, w, rfl, h1, h2⟩ := two_of h
    cases h1; cases h2
    exact ⟨_, _, rfl, k G H _ (Gr.refl s) (.int _)⟩
  · cases e
theorem bools_of {G : Hp} : ∀ {vs : List V} {ds : List D} {bs : List Bool}, DqAll K G vs ds → bools ds = some bs → vs = bs.map V.bl
  | _, [], bs, .nil, e => by cases e; rfl
  | _, d :: ds, bs, .cons h t, e => by
    cases d <;> first | cases e | skip
    unfold bools at e
    rw [Option.map_eq_some_iff] at e
    obtain ⟨x, h1, e⟩ := e
    cases e
    cases h
    rw [bools_of t h1]
    rfl
theorem ints_of {G : Hp} : ∀ {vs : List V} {ds : List D} {bs : List Int}, DqAll K G vs ds → intsOf ds = some bs → vs = bs.map V.int
  | _, [], bs, .nil, e => by cases e; rfl
  | _, d :: ds, bs, .cons h t, e => by
    cases d <;> first | cases e | skip
    unfold intsOf at e
    rw [Option.map_eq_some_iff] at e
    obtain ⟨x, h1, e⟩ := e
    cases e
    cases h
    rw [ints_of t h1]
    rfl
theorem d_all : CallD K (rAll K) dAll := by
  intro G H vs ds d Q s h e k
  unfold dAll at e
  split at e
  · rw [Option.map_eq_some_iff] at e
    obtain ⟨bs, hb, e⟩ := e
    cases e
    obtain ⟨v, rfl, hd⟩ := one_of h
    cases hd with
    | lst h1 a1 =>
      rw [bools_of a1 hb] at h1
      exact ⟨_, bs, rfl, SqL.of (s _ _ h1), k G H _ (Gr.refl s) (.bl _)⟩
  · cases e
theorem d_any : CallD K (rAny K) dAny := by
  intro G H vs ds d Q s h e k
  unfold dAny at e
  split at e
  · rw [Option.map_eq_some_iff] at e
    obtain ⟨bs, hb, e⟩ := e
    cases e
    obtain ⟨v, rfl, hd⟩ := one_of h
    cases hd with
    | lst h1 a1 =>
      rw [bools_of a1 hb] at h1
      exact ⟨_, bs, rfl, SqL.of (s _ _ h1), k G H _ (Gr.refl s) (.bl _)⟩
  · cases e
theorem d_sum : CallD K (rSum K) dSum := by
  intro G H vs ds d Q s h e k
  unfold dSum at e
  split at e
  · rw [Option.map_eq_some_iff] at e
    obtain ⟨bs, hb, e⟩ := e
    cases e
    obtain ⟨v, rfl, hd⟩ := one_of h
    cases hd with
    | lst h1 a1 =>
      rw [ints_of a1 hb] at h1
      exact ⟨_, bs, rfl, SqL.of (s _ _ h1), k G H _ (Gr.refl s) (.int _)⟩
  · cases e
theorem d_list : CallD K (fun xs H Q => ∃ p ys, xs = [.ref p] ∧ (SqL K H p ys ∨ SqT K H p ys) ∧ ∀ l, H l = none → Q (.ref l) (upd H l (.lst ys))) dList := by
  intro G H vs ds d Q s h e k
  unfold dList at e
  split at e
  · cases e
    obtain ⟨v, rfl, hd⟩ := one_of h
    cases hd with
    | lst h1 a1 => exact ⟨_, _, rfl, .inl (SqL.of (s _ _ h1)), fun p hp => k _ _ _ (Gr.new s hp) (.lst upd_same (DqAll_mono (Gr.new s hp).gg a1))⟩
  · cases e
    obtain ⟨v, rfl, hd⟩ := one_of h
    cases hd with
    | tup h1 a1 => exact ⟨_, _, rfl, .inr (SqT_mono s h1), fun p hp => k _ _ _ (Gr.new s hp) (.lst upd_same (DqAll_mono (Gr.new s hp).gg a1))⟩
  · cases e
theorem d_tuple : CallD K (fun xs H Q => ∃ p ys, xs = [.ref p] ∧ ((SqL K H p ys ∧ ∀ l, H l = none → Q (.ref l) (upd H l (.tup ys))) ∨ (SqT K H p ys ∧ Q (.ref p) H))) dTuple := by
  intro G H vs ds d Q s h e k
  unfold dTuple at e
  split at e
  · cases e
    obtain ⟨v, rfl, hd⟩ := one_of h
    cases hd with
    | lst h1 a1 => exact ⟨_, _, rfl, .inl ⟨SqL.of (s _ _ h1), fun p hp => k _ _ _ (Gr.new s hp) (.tup (SqT.of upd_same) (DqAll_mono (Gr.new s hp).gg a1))⟩⟩
  · cases e
    obtain ⟨v, rfl, hd⟩ := one_of h
    cases id hd with
    | tup h1 a1 => exact ⟨_, _, rfl, .inr ⟨SqT_mono s h1, k G H _ (Gr.refl s) hd⟩⟩
  · cases e
theorem d_int : CallD K (fun xs H Q => (∃ i, xs = [V.int i] ∧ Q (.int i) H) ∨ ∃ k, xs = [V.bl k] ∧ Q (.int (if k then 1 else 0)) H) dInt := by
  intro G H vs ds d Q s h e k
  unfold dInt at e
  split at e
  · cases e
    obtain ⟨v, rfl, hd⟩ := one_of h
    cases hd
    exact .inl ⟨_, rfl, k G H _ (Gr.refl s) (.int _)⟩
  · cases e
    obtain ⟨v, rfl, hd⟩ := one_of h
    cases hd
    exact .inr ⟨_, rfl, k G H _ (Gr.refl s) (.int _)⟩
  · cases e
theorem sorted_one {a b : List Int} (p : a.Perm b) (h1 : a.Pairwise (· ≤ ·)) : a = b.mergeSort (· ≤ ·) := by
  have h2 : (b.mergeSort (· ≤ ·)).Pairwise (· ≤ ·) := by
    have := List.pairwise_mergeSort (le := fun (x y : Int) => decide (x ≤ y)) (fun a b c h1 h2 => by simp at *; omega) (fun a b => by simp; omega) b
    simpa using this
  have p2 : a.Perm (b.mergeSort (· ≤ ·)) := p.trans (List.mergeSort_perm b _).symm
  exact p2.eq_of_pairwise (fun x y _ _ h1 h2 => by omega) h1 h2
theorem d_sortedI : CallD K (rSortedI K) dSortedI := by
  intro G H vs ds d Q s h e k
  unfold dSortedI at e
  split at e
  · rw [Option.map_eq_some_iff] at e
    obtain ⟨bs, hb, e⟩ := e
    cases e
    obtain ⟨v, rfl, hd⟩ := one_of h
    cases hd with
    | lst h1 a1 =>
      rw [ints_of a1 hb] at h1
      refine ⟨_, bs, rfl, SqL.of (s _ _ h1), fun ns' p hp hs hn => k _ _ _ (Gr.new s hn) ?_⟩
      rw [← sorted_one hp hs]
      refine .lst upd_same ?_
      have : ∀ (G : Hp) (l : List Int), DqAll K G (l.map V.int) (l.map PyData.int) := fun G l => by
        induction l with
        | nil => exact .nil
        | cons a r ih => exact .cons (.int _) ih
      exact this _ _
  · cases e
/-- isinstance(x, T), T built in -/
def isaD (T : String) : D → Option Bool
  | .none => kitB "NoneType" T
  | .bool _ => kitB "bool" T
  | .int _ => kitB "int" T
  | .str _ => kitB "str" T
  | .list _ => kitB "list" T
  | .tuple _ => kitB "tuple" T
  | .dict _ => none
end
end QL
set_option Elab.async false
set_option linter.all false
set_option maxRecDepth 100000
set_option maxHeartbeats 1000000
namespace QL
open PySem PySem.Spec PyProof.Rows L2

/-! ### isinstance -/
def isaV (T : String) : D → Option D := fun d => match d with
  | .none => (kitB "NoneType" T).map .bool
  | .bool _ => (kitB "bool" T).map .bool
  | .int _ => (kitB "int" T).map .bool
  | .str _ => (kitB "str" T).map .bool
  | .list _ => (kitB "list" T).map .bool
  | .tuple _ => (kitB "tuple" T).map .bool
  | .dict _ => none
theorem tyX_of {K : Fr} {G H : Hp} {v : V} {d : D} (s : Same G H) (h : Dq K G v d) : ∃ t, TyX K H v (.type t) ∧ (∀ T, isaV T d = (kitB t T).map .bool) := by
  cases h with
  | non => exact ⟨_, .base .non, fun _ => rfl⟩
  | bl b => exact ⟨_, .base (.bl _), fun _ => rfl⟩
  | int b => exact ⟨_, .base (.int _), fun _ => rfl⟩
  | str b => exact ⟨_, .base (.str _), fun _ => rfl⟩
  | lst h1 _ => exact ⟨_, .base (.lst (s _ _ h1)), fun _ => rfl⟩
  | tup h1 _ =>
    rcases h1 with (h1 | ⟨o, h1⟩) | ⟨o, its, n, h1, hc, _⟩
    · exact ⟨_, .base (.tup (s _ _ h1)), fun _ => rfl⟩
    · exact ⟨_, .fTuple (s _ _ h1), fun _ => rfl⟩
    · exact ⟨_, .kTuple h1 hc, fun _ => rfl⟩
section
variable {X : Cx} {a e : Expr} {es : List Expr} {pos p p2 : Pos}
theorem qe_isa {m : M D} {T : Str} {n : String} (ha : QE X a m) (hm : X.mg "isinstance" = none) (hT : X.mg T = none) (hg : Gl X "isinstance" := by rfl) (hg2 : Gl X T := by rfl) (hv : bootBuiltins T = some (.type n) := by decide +kernel) (hn : T ≠ "__name__" := by decide) (hd : (T == ("__debug__" : Str)) = false := by decide)
    (h1 : starEach [.Name T p2] X.env = (false, eval (.Name T p2) X.env) :: starEach [] X.env := by rfl) (h2 : starEach [a, .Name T p2] X.env = (false, eval a X.env) :: starEach [.Name T p2] X.env := by rfl) (hpl : (backTo pos (starEach [.Name T p2] X.env)).any (·.1) = false := by rfl) :
    QE X (.Call (.Name "isinstance" p) [a, .Name T p2] [] pos) (eOp1 (isaV n) m) := by
  refine PE.imp (pe_callB call_isi hg hm (by decide +kernel) (pa_cons ha (pa_cons (pe_bltn (v := .ty n) hg2 hT hv rfl hn hd) pa_nil h1) h2) (by decide) (by decide) h2 hpl) fun σ H Q h => ?_
  obtain ⟨R, G, ρ, d, ρ', rp, e, k⟩ := h
  unfold eOp1 at e
  rw [Option.bind_eq_some_iff] at e
  obtain ⟨⟨x, ρ1⟩, h1, e⟩ := e
  rw [Option.map_eq_some_iff] at e
  obtain ⟨z, h2, e⟩ := e
  cases e
  refine ⟨R, G, ρ, x, _, rp, h1, fun G1 H1 v1 s1 r1 d1 => ?_⟩
  obtain ⟨t, ty, ht⟩ := tyX_of r1.subG d1
  rw [ht n, Option.map_eq_some_iff] at h2
  obtain ⟨b, h3, h2⟩ := h2
  cases h2
  exact ⟨v1, .ty n, .type t, .type n, b, rfl, .ty n, ty, kit_ty h3, k G1 H1 _ s1 r1 (.bl _)⟩
end

/-! ### own lists -/
def ownL (ρ : Ro) (i : Nat) : Option (List D) := match ρ[i]? with
  | some (.own (.lst ds)) => some ds
  | _ => none
theorem ownL_some {ρ : Ro} {i : Nat} {ds : List D} (h : ownL ρ i = some ds) : ρ[i]? = some (.own (.lst ds)) := by
  unfold ownL at h
  split at h
  · cases h; assumption
  · cases h
theorem Rep.ownAt {K : Fr} {R G H : Hp} {ρ : Ro} {σ : St} {i : Nat} {ds : List D} (r : Rep K R G H ρ σ) (h : ρ[i]? = some (.own (.lst ds))) : ∃ p vs, σ[i]? = some (some (.ref p)) ∧ H p = some (.lst vs) ∧ DqAll K G vs ds := by
  obtain ⟨p, ho, e, hp, gp, rp, x⟩ := r.slot i _ h
  cases ho <;> try exact x.elim
  exact ⟨p, _, e, hp, x⟩
def eAppend (i : Nat) (a : M D) : M D := fun ρ => (ownL ρ i).bind fun _ => (a ρ).bind fun p => (ownL p.2 i).bind fun ds => if ds.length < 1000000 then some (.none, p.2.set i (.own (.lst (ds ++ [p.1])))) else none
def eExtend (i : Nat) (a : M D) : M D := fun ρ => (ownL ρ i).bind fun _ => (a ρ).bind fun p => (ownL p.2 i).bind fun ds => match p.1 with
  | .list es => if ds.length + es.length ≤ 1000000 then some (.none, p.2.set i (.own (.lst (ds ++ es)))) else none
  | _ => none
def ePopAt (i : Nat) (a : M D) : M D := fun ρ => (ownL ρ i).bind fun _ => (a ρ).bind fun p => (ownL p.2 i).bind fun ds => match p.1 with
  | .int j => if 0 ≤ j ∧ j < 2 ^ 63 then (ds[j.toNat]?).map fun d => (d, p.2.set i (.own (.lst (ds.eraseIdx j.toNat)))) else none
  | _ => none
def eLenO (i : Nat) : M D := fun ρ => (ownL ρ i).map fun ds => (.int ds.length, ρ)
def eIxO (i : Nat) (a : M D) : M D := fun ρ => (ownL ρ i).bind fun _ => (a ρ).bind fun p => (ownL p.2 i).bind fun ds => match p.1 with
  | .int j => (atI ds j).map fun d => (d, p.2)
  | _ => none
section
variable {X : Cx} {a e : Expr} {es : List Expr} {pos p p2 apos cpos : Pos} {x : Str}
theorem qe_append (i : Nat) {m : M D} (ha : QE X a m) (hN : X.N[i]? = some x := by rfl) (hv : Vis X.env.scope x := by first | exact Or.inl rfl | exact Or.inr (Or.inl rfl) | exact Or.inr (Or.inr rfl)) (hd : (x == ("__debug__" : Str)) = false := by decide) (hcd : (x == ("__classdict__" : Str)) = false := by decide)
    (hbase : attributeBase (.Name x p) "append" X.env (eval (.Name x p) X.env) = eval (.Name x p) X.env := by rfl)
    (hfew : ((backTo cpos (starEach [a] X.env)).all (fun x => !x.1) && (backToKw cpos (keywordEach [] X.env)).all (fun x => x.1.isSome)
      && decide ([a].length + ([] : List Keyword).length + (if ([] : List Keyword).isEmpty then 0 else 1) < 30)) = true := by rfl)
    (hline : (apos.endLine == cpos.line) = true := by rfl) (hs : starEach [a] X.env = (false, eval a X.env) :: starEach [] X.env := by rfl) (hplain : (backTo cpos (starEach [] X.env)).any (·.1) = false := by rfl) :
    QE X (.Call (.Attribute (.Name x p) "append" apos) [a] [] cpos) (eAppend i m) := by
  refine PE.imp (pe_bm PySem.F.plainAttrs_list PySem.F.slot_list_append PySem.F.type_list_append mt_append (pe_var hN hv hd hcd) (pa_cons ha pa_nil hs) hbase hfew hline hs hplain) fun σ H Q h => ?_
  obtain ⟨R, G, ρ, d, ρ', rp, e, k⟩ := h
  unfold eAppend at e
  rw [Option.bind_eq_some_iff] at e
  obtain ⟨ds0, h0, e⟩ := e
  rw [Option.bind_eq_some_iff] at e
  obtain ⟨⟨y, ρ1⟩, h1, e⟩ := e
  rw [Option.bind_eq_some_iff] at e
  obtain ⟨ds, h2, e⟩ := e
  split at e
  · rename_i hl
    cases e
    obtain ⟨q, vs0, eq0, hq0, _⟩ := rp.ownAt (ownL_some h0)
    refine ⟨.ref q, eq0, .inl ⟨rfl, _, SqL.of hq0⟩, R, G, ρ, y, ρ1, rp, h1, fun G1 H1 v1 s1 r1 d1 => ?_⟩
    obtain ⟨q', vs, eq, hq, dv⟩ := r1.ownAt (ownL_some h2)
    rw [eq0] at eq
    cases eq
    refine ⟨_, vs, v1, rfl, rfl, hq, by rw [dv.length]; exact Nat.lt_of_lt_of_le hl (by decide), k G1 _ _ s1 (r1.write (ownL_some h2) eq0 (c' := .lst (ds ++ [y])) (ho := .lst (vs ++ [v1])) ?_) .non⟩
    exact dv.append (.cons d1 .nil)
  · cases e
theorem qe_extend (i : Nat) {m : M D} (ha : QE X a m) (hN : X.N[i]? = some x := by rfl) (hv : Vis X.env.scope x := by first | exact Or.inl rfl | exact Or.inr (Or.inl rfl) | exact Or.inr (Or.inr rfl)) (hd : (x == ("__debug__" : Str)) = false := by decide) (hcd : (x == ("__classdict__" : Str)) = false := by decide)
    (hbase : attributeBase (.Name x p) "extend" X.env (eval (.Name x p) X.env) = eval (.Name x p) X.env := by rfl)
    (hfew : ((backTo cpos (starEach [a] X.env)).all (fun x => !x.1) && (backToKw cpos (keywordEach [] X.env)).all (fun x => x.1.isSome)
      && decide ([a].length + ([] : List Keyword).length + (if ([] : List Keyword).isEmpty then 0 else 1) < 30)) = true := by rfl)
    (hline : (apos.endLine == cpos.line) = true := by rfl) (hs : starEach [a] X.env = (false, eval a X.env) :: starEach [] X.env := by rfl) (hplain : (backTo cpos (starEach [] X.env)).any (·.1) = false := by rfl) :
    QE X (.Call (.Attribute (.Name x p) "extend" apos) [a] [] cpos) (eExtend i m) := by
  refine PE.imp (pe_bm PySem.F.plainAttrs_list PySem.F.slot_list_extend PySem.F.type_list_extend mt_extend (pe_var hN hv hd hcd) (pa_cons ha pa_nil hs) hbase hfew hline hs hplain) fun σ H Q h => ?_
  obtain ⟨R, G, ρ, d, ρ', rp, e, k⟩ := h
  unfold eExtend at e
  rw [Option.bind_eq_some_iff] at e
  obtain ⟨ds0, h0, e⟩ := e
  rw [Option.bind_eq_some_iff] at e
  obtain ⟨⟨y, ρ1⟩, h1, e⟩ := e
  rw [Option.bind_eq_some_iff] at e
  obtain ⟨ds, h2, e⟩ := e
  cases y <;> try (cases e; done)
  rename_i es
  simp only at e
  split at e
  · rename_i hl
    cases e
    obtain ⟨q, vs0, eq0, hq0, _⟩ := rp.ownAt (ownL_some h0)
    refine ⟨.ref q, eq0, .inl ⟨rfl, _, SqL.of hq0⟩, R, G, ρ, .list es, ρ1, rp, h1, fun G1 H1 v1 s1 r1 d1 => ?_⟩
    obtain ⟨q', vs, eq, hq, dv⟩ := r1.ownAt (ownL_some h2)
    rw [eq0] at eq
    cases eq
    cases d1 with
    | lst hb db =>
      refine ⟨_, _, vs, _, rfl, rfl, hq, r1.subG _ _ hb, by rw [dv.length, db.length]; exact size_of hl, k G1 _ _ s1 (r1.write (ownL_some h2) eq0 (c' := .lst (ds ++ es)) (ho := .lst (vs ++ _)) ?_) .non⟩
      exact dv.append db
  · cases e
theorem qe_popAt (i : Nat) {m : M D} (ha : QE X a m) (hN : X.N[i]? = some x := by rfl) (hv : Vis X.env.scope x := by first | exact Or.inl rfl | exact Or.inr (Or.inl rfl) | exact Or.inr (Or.inr rfl)) (hd : (x == ("__debug__" : Str)) = false := by decide) (hcd : (x == ("__classdict__" : Str)) = false := by decide)
    (hbase : attributeBase (.Name x p) "pop" X.env (eval (.Name x p) X.env) = eval (.Name x p) X.env := by rfl)
    (hfew : ((backTo cpos (starEach [a] X.env)).all (fun x => !x.1) && (backToKw cpos (keywordEach [] X.env)).all (fun x => x.1.isSome)
      && decide ([a].length + ([] : List Keyword).length + (if ([] : List Keyword).isEmpty then 0 else 1) < 30)) = true := by rfl)
    (hline : (apos.endLine == cpos.line) = true := by rfl) (hs : starEach [a] X.env = (false, eval a X.env) :: starEach [] X.env := by rfl) (hplain : (backTo cpos (starEach [] X.env)).any (·.1) = false := by rfl) :
    QE X (.Call (.Attribute (.Name x p) "pop" apos) [a] [] cpos) (ePopAt i m) := by
  refine PE.imp (pe_bm PySem.F.plainAttrs_list PySem.F.slot_list_pop PySem.F.type_list_pop mt_popAt (pe_var hN hv hd hcd) (pa_cons ha pa_nil hs) hbase hfew hline hs hplain) fun σ H Q h => ?_
  obtain ⟨R, G, ρ, d, ρ', rp, e, k⟩ := h
  unfold ePopAt at e
  rw [Option.bind_eq_some_iff] at e
  obtain ⟨ds0, h0, e⟩ := e
  rw [Option.bind_eq_some_iff] at e
  obtain ⟨⟨y, ρ1⟩, h1, e⟩ := e
  rw [Option.bind_eq_some_iff] at e
  obtain ⟨ds, h2, e⟩ := e
  cases y <;> try (cases e; done)
  rename_i j
  simp only at e
  split at e
  · rename_i hl
    rw [Option.map_eq_some_iff] at e
    obtain ⟨z, hz, e⟩ := e
    cases e
    obtain ⟨q, vs0, eq0, hq0, _⟩ := rp.ownAt (ownL_some h0)
    refine ⟨.ref q, eq0, .inl ⟨rfl, _, SqL.of hq0⟩, R, G, ρ, .int j, ρ1, rp, h1, fun G1 H1 v1 s1 r1 d1 => ?_⟩
    obtain ⟨q', vs, eq, hq, dv⟩ := r1.ownAt (ownL_some h2)
    rw [eq0] at eq
    cases eq
    cases d1
    obtain ⟨w, hw, dw⟩ := dv.get hz
    refine ⟨_, vs, j, j.toNat, w, rfl, rfl, hq, by omega, hl.2, ?_, hw, k G1 _ _ s1 (r1.write (ownL_some h2) eq0 (c' := .lst (ds.eraseIdx j.toNat)) (ho := .lst (vs.eraseIdx j.toNat)) (dv.eraseIdx _)) dw⟩
    have hj : j.toNat < vs.length := (List.getElem?_eq_some_iff.mp hw).1
    have e1 : ixN vs.length j = some j.toNat := by
      unfold ixN
      rw [if_pos hl.1, if_pos (by omega)]
    exact (ixN_seq e1).1
  · cases e
theorem qe_lenO (i : Nat) (hm : X.mg "len" = none) (hN : X.N[i]? = some x := by rfl) (hv : Vis X.env.scope x := by first | exact Or.inl rfl | exact Or.inr (Or.inl rfl) | exact Or.inr (Or.inr rfl)) (hd : (x == ("__debug__" : Str)) = false := by decide) (hcd : (x == ("__classdict__" : Str)) = false := by decide) (hg : Gl X "len" := by rfl)
    (hs : starEach [.Name x p] X.env = (false, eval (.Name x p) X.env) :: starEach [] X.env := by rfl) (hpl : (backTo pos (starEach [] X.env)).any (·.1) = false := by rfl) : QE X (.Call (.Name "len" p2) [.Name x p] [] pos) (eLenO i) := by
  refine PE.imp (pe_callB call_len_seq hg hm PySem.boot_len (pa_cons (pe_var hN hv hd hcd) pa_nil hs) (by decide) (by decide) hs hpl) fun σ H Q h => ?_
  obtain ⟨R, G, ρ, d, ρ', rp, e, k⟩ := h
  unfold eLenO at e
  rw [Option.map_eq_some_iff] at e
  obtain ⟨ds, h0, e⟩ := e
  cases e
  obtain ⟨q, vs, eq, hq, dv⟩ := rp.ownAt (ownL_some h0)
  exact ⟨.ref q, eq, q, vs, rfl, .inl (SqL.of hq), by rw [dv.length]; exact k G H _ (.refl _) rp (.int _)⟩
theorem qe_ixO (i : Nat) {m : M D} (ha : QE X a m) (hN : X.N[i]? = some x := by rfl) (hv : Vis X.env.scope x := by first | exact Or.inl rfl | exact Or.inr (Or.inl rfl) | exact Or.inr (Or.inr rfl)) (hd : (x == ("__debug__" : Str)) = false := by decide) (hcd : (x == ("__classdict__" : Str)) = false := by decide) (hs : PlainIx a := by exact fun _ _ => rfl) :
    QE X (.Subscript (.Name x p) a pos) (eIxO i m) := by
  refine PE.imp (pe_ix ix_list (pe_var hN hv hd hcd) ha hs) fun σ H Q h => ?_
  obtain ⟨R, G, ρ, d, ρ', rp, e, k⟩ := h
  unfold eIxO at e
  rw [Option.bind_eq_some_iff] at e
  obtain ⟨ds0, h0, e⟩ := e
  rw [Option.bind_eq_some_iff] at e
  obtain ⟨⟨y, ρ1⟩, h1, e⟩ := e
  rw [Option.bind_eq_some_iff] at e
  obtain ⟨ds, h2, e⟩ := e
  cases y <;> try (cases e; done)
  rename_i j
  simp only at e
  rw [Option.map_eq_some_iff] at e
  obtain ⟨z, hz, e⟩ := e
  cases e
  obtain ⟨q, vs0, eq0, hq0, _⟩ := rp.ownAt (ownL_some h0)
  refine ⟨.ref q, eq0, R, G, ρ, .int j, _, rp, h1, fun G1 H1 v1 s1 r1 d1 => ?_⟩
  obtain ⟨q', vs, eq, hq, dv⟩ := r1.ownAt (ownL_some h2)
  rw [eq0] at eq
  cases eq
  cases d1
  obtain ⟨w, hw, dw⟩ := atI_rel dv hz
  exact ⟨_, vs, j, w, rfl, rfl, SqL.of hq, hw, k G1 H1 _ s1 r1 dw⟩
/-- x[i] = e, x one's own list -/
def sSetIx (i : Nat) (a b : M D) : MS := fun ρ => (b ρ).bind fun p => (ownL p.2 i).bind fun _ => (a p.2).bind fun q => (ownL q.2 i).bind fun ds => match q.1 with
  | .int j => (ixN ds.length j).map fun n => (.nx, q.2.set i (.own (.lst (ds.set n p.1))))
  | _ => none
theorem qs_setIx (i : Nat) {m n : M D} {b : Expr} (ha : QE X a m) (hb : QE X b n) (hN : X.N[i]? = some x := by rfl) (hv : Vis X.env.scope x := by first | exact Or.inl rfl | exact Or.inr (Or.inl rfl) | exact Or.inr (Or.inr rfl)) (hd : (x == ("__debug__" : Str)) = false := by decide) (hcd : (x == ("__classdict__" : Str)) = false := by decide)
    (hs : swapsWithSole [.Subscript (.Name x p) a p2] b pos.line X.env = pure false := by rfl) (hw : swappedStores [.Subscript (.Name x p) a p2] b X.env = pure none := by rfl)
    (h1 : (assignEach [.Subscript (.Name x p) a p2] X.env).map (·.2) = [assign (.Subscript (.Name x p) a p2) X.env] := by rfl)
    (has : ∀ v, assign (.Subscript (.Name x p) a p2) X.env v = (do
      let ov ← holding [v] (eval (.Name x p) X.env)
      let iv ← holding [v, ov] (eval a X.env)
      standAt p2
      holding [v, ov, iv] (setItem ov iv v)
      release [v, ov, iv] []) := by intro _; rfl) : QS X [] (.Assign [.Subscript (.Name x p) a p2] b pos) (sSetIx i m n) := by
  refine PS.imp (ps_asg hb (pg_sub (pe_var hN hv hd hcd) ha set_list has) hs hw h1) fun E σ H h => ?_
  obtain ⟨R, G, ρ, f, ρ', rp, e, k⟩ := h
  unfold sSetIx at e
  rw [Option.bind_eq_some_iff] at e
  obtain ⟨⟨y, ρ1⟩, h1, e⟩ := e
  rw [Option.bind_eq_some_iff] at e
  obtain ⟨ds0, h0, e⟩ := e
  rw [Option.bind_eq_some_iff] at e
  obtain ⟨⟨z, ρ2⟩, h2, e⟩ := e
  rw [Option.bind_eq_some_iff] at e
  obtain ⟨ds, h3, e⟩ := e
  cases z <;> try (cases e; done)
  rename_i j
  simp only at e
  rw [Option.map_eq_some_iff] at e
  obtain ⟨l, hl, e⟩ := e
  cases e
  refine ⟨R, G, ρ, y, ρ1, rp, h1, fun G1 H1 v1 s1 r1 d1 => ?_⟩
  obtain ⟨q, vs0, eq0, hq0, _⟩ := r1.ownAt (ownL_some h0)
  refine ⟨.ref q, eq0, R, G1, ρ1, .int j, ρ2, r1, h2, fun G2 H2 v2 s2 r2 d2 => ?_⟩
  obtain ⟨q', vs, eq, hq, dv⟩ := r2.ownAt (ownL_some h3)
  rw [eq0] at eq
  cases eq
  cases d2
  refine ⟨_, vs, j, l, rfl, rfl, hq, by rw [dv.length]; exact hl, k G2 _ σ (s1.trans s2) (r2.write (ownL_some h3) eq0 (c' := .lst (ds.set l y)) (ho := .lst (vs.set l v1)) ?_) (.refl _ _)⟩
  exact DqAll.set (Dq_mono s2 d1) l dv
end

/-! ### defs -/
theorem fnP {P : Program} {w : World} {K : Fr} {mg : Str → Option Value} {base : Heap} {x qual : Str} {st : Stmt} {f : Addr} {fd : FuncData} {N ps : List Str} {k : Nat} {W : List Nat} {body : MS} (F : Fun K x qual st f fd) (S : FnScope N ps (defScope st))
    (h : ∀ (cdv : Value) (A : Around) (outer : List Env) (s : Shared) (H : Hp) (E : XK), Room k (A.deeper (envOfC qual (defScope st) s.heap.objs.size f cdv)) → QSs (cxOf CX0 P w K mg base N qual (defScope st) f cdv A outer s H E).nox W (defBody st) body) :
    FnOk P w K mg base CX0 (k + 1) f fd ps (spP K (runF ps.length N.length body) ps.length) := by
  refine F.ok S (fun vs H Q E h => h.1) (fun cdv A outer s H vs Q E hr hsp => ⟨_, h cdv A outer s H E hr, ?_⟩)
  obtain ⟨hl, G, ds, d, sG, dd, e, k⟩ := hsp
  unfold runF at e
  split at e
  · rename_i hn
    let R : Hp := fun a => if G a = none then H a else none
    have hR : ∀ a o, R a = some o → G a = none ∧ H a = some o := fun a o q => by
      by_cases z : G a = none
      · exact ⟨z, by have := q; simp only [R, z, if_true] at this; exact this⟩
      · have := q; simp only [R, z, if_false] at this; cases this
    have hRi : ∀ a o, G a = none → H a = some o → R a = some o := fun a o z q => by simp only [R, z, if_true]; exact q
    have rep0 : Rep K R G H (ds.map Sl.dat ++ List.replicate (N.length - ps.length) Sl.un) (L2.start N vs) := by
      refine ⟨?_, fun a o q => (hR a o q).2, sG, fun a o q => (hR a o q).1, fun i s hs => ?_, fun i j c c' p h1 h2 _ _ => ?_⟩
      · simp [L2.start, dd.length, ← hn]
      · by_cases hi : i < ds.length
        · rw [List.getElem?_append_left (by simpa using hi), List.getElem?_map] at hs
          rw [List.getElem?_eq_getElem hi] at hs
          cases hs
          obtain ⟨v, hv, dv⟩ := dd.get (List.getElem?_eq_getElem hi)
          refine ⟨v, ?_, dv⟩
          show (vs.map some ++ _)[i]? = _
          rw [List.getElem?_append_left (by rw [List.length_map, dd.length]; exact hi), List.getElem?_map, hv]
          rfl
        · rw [List.getElem?_append_right (by simpa using hi), List.getElem?_replicate] at hs
          split at hs
          · cases hs; trivial
          · cases hs
      · exfalso
        by_cases hi : i < ds.length
        · rw [List.getElem?_append_left (by simpa using hi), List.getElem?_map, List.getElem?_eq_getElem hi] at h1
          cases h1
        · rw [List.getElem?_append_right (by simpa using hi), List.getElem?_replicate] at h1
          split at h1 <;> cases h1
    have fin : ∀ G' H' (σ' : St) (ρ' : Ro), Same G G' → Rep K R G' H' ρ' σ' → Gr G H G' H' := fun G' H' σ' ρ' s r => by
      refine ⟨fun a o q => ?_, s, r.subG, fun a o q1 q2 => ?_⟩
      · cases z : G a with
        | none => exact r.subR a o (hRi a o z q)
        | some u =>
          have := sG a u z
          rw [q] at this
          cases this
          exact r.subG a _ (s a _ z)
      · cases z : H a with
        | none => rfl
        | some u =>
          have := r.dis a u (hRi a u q1 z)
          rw [q2] at this; cases this
    cases q : body (ds.map Sl.dat ++ List.replicate (N.length - ps.length) Sl.un) with
    | none => rw [q] at e; cases e
    | some r =>
      obtain ⟨fl, ρ'⟩ := r
      rw [q] at e
      refine ⟨R, G, _, fl, ρ', rep0, q, ?_⟩
      cases fl with
      | nx => cases e; exact fun G' H' σ' s r _ => k G' H' _ (fin G' H' σ' _ s r) .non
      | bk => cases e
      | ct => cases e
      | rt d => cases e; exact fun G' H' σ' v s r _ dv => k G' H' v (fin G' H' σ' _ s r) dv
  · cases e
end QL
set_option Elab.async false
set_option linter.all false
set_option maxRecDepth 100000
set_option maxHeartbeats 1000000
namespace QL
open PySem PySem.Spec PyProof.Rows L2

/-! ### calls that are given objects of one's own, and the script -/
inductive Ar where
  | dat (d : D)
  | var (i : Nat)
inductive ArAll (K : Fr) (G : Hp) (σ : St) : List V → List Ar → Prop
  | nil : ArAll K G σ [] []
  | dat {v : V} {d : D} {vs : List V} {as : List Ar} : Dq K G v d → ArAll K G σ vs as → ArAll K G σ (v :: vs) (.dat d :: as)
  | var {v : V} {i : Nat} {vs : List V} {as : List Ar} : σ[i]? = some (some v) → ArAll K G σ vs as → ArAll K G σ (v :: vs) (.var i :: as)
theorem ArAll.mono {K : Fr} {G G' : Hp} {σ : St} (s : Same G G') : ∀ {vs : List V} {as : List Ar}, ArAll K G σ vs as → ArAll K G' σ vs as
  | _, _, .nil => .nil
  | _, _, .dat d t => .dat (Dq_mono s d) (ArAll.mono s t)
  | _, _, .var e t => .var e (ArAll.mono s t)
theorem ArAll.length {K : Fr} {G : Hp} {σ : St} : ∀ {vs : List V} {as : List Ar}, ArAll K G σ vs as → vs.length = as.length
  | _, _, .nil => rfl
  | _, _, .dat _ t => by simp [ArAll.length t]
  | _, _, .var _ t => by simp [ArAll.length t]
theorem ArAll.get {K : Fr} {G : Hp} {σ : St} : ∀ {vs : List V} {as : List Ar} {k : Nat} {a : Ar}, ArAll K G σ vs as → as[k]? = some a → ∃ v, vs[k]? = some v ∧ (match a with | .dat d => Dq K G v d | .var i => σ[i]? = some (some v))
  | _, _, _, _, .nil, e => by simp at e
  | _, _, 0, _, .dat d _, e => by simp at e; subst e; exact ⟨_, rfl, d⟩
  | _, _, 0, _, .var d _, e => by simp at e; subst e; exact ⟨_, rfl, d⟩
  | _, _, k + 1, a, .dat _ t, e => by
    obtain ⟨v, h1, h2⟩ := ArAll.get (k := k) t (by simpa using e)
    exact ⟨v, by simpa using h1, h2⟩
  | _, _, k + 1, a, .var _ t, e => by
    obtain ⟨v, h1, h2⟩ := ArAll.get (k := k) t (by simpa using e)
    exact ⟨v, by simpa using h1, h2⟩
def tMY (K : Fr) (m : M (List Ar)) : TA := fun σ H Q => ∃ R G ρ as ρ', Rep K R G H ρ σ ∧ m ρ = some (as, ρ') ∧ ∀ G' H' vs, Same G G' → Rep K R G' H' ρ' σ → ArAll K G' σ vs as → Q vs H'
abbrev QY (X : Cx) (e : List Expr) (m : M (List Ar)) : Prop := PA X e (tMY X.K m)
def yNil : M (List Ar) := fun ρ => some ([], ρ)
def yDat (a : M D) (r : M (List Ar)) : M (List Ar) := fun ρ => (a ρ).bind fun p => (r p.2).map fun q => (.dat p.1 :: q.1, q.2)
def isRef : Sl → Bool
  | .own _ => true
  | .scr _ => true
  | _ => false
def yVar (i : Nat) (r : M (List Ar)) : M (List Ar) := fun ρ => (ρ[i]?).bind fun s => if isRef s then (r ρ).map fun q => (.var i :: q.1, q.2) else none
def toSl (ρ : Ro) : Ar → Sl
  | .dat d => .dat d
  | .var i => (ρ[i]?).getD .un
def ownIx (ρ : Ro) : List Ar → List Nat
  | [] => []
  | .dat _ :: as => ownIx ρ as
  | .var i :: as => match ρ[i]? with
    | some (.own _) => i :: ownIx ρ as
    | _ => ownIx ρ as
def clr : List Ar → Ro → Ro
  | [], ρ => ρ
  | .dat _ :: as, ρ => clr as ρ
  | .var i :: as, ρ => clr as (match ρ[i]? with | some (.own _) => ρ.set i .un | _ => ρ)
def put : List Ar → List Sl → Ro → Ro
  | [], _, ρ => ρ
  | _ :: _, [], ρ => ρ
  | .dat _ :: as, _ :: ss, ρ => put as ss ρ
  | .var i :: as, s :: ss, ρ => put as ss (match s with | .own c => ρ.set i (.own c) | _ => ρ)
def eAppO (F : List Sl → Option (D × List Sl)) (m : M (List Ar)) : M D := fun ρ => (m ρ).bind fun p => if (ownIx p.2 p.1).Nodup then (F (p.1.map (toSl p.2))).map fun r => (r.1, put p.1 r.2 (clr p.1 p.2)) else none
theorem clr_get : ∀ (as : List Ar) (ρ : Ro) (j : Nat) (s : Sl), (clr as ρ)[j]? = some s → s = .un ∨ (ρ[j]? = some s ∧ ((∃ c, s = .own c) → Ar.var j ∉ as))
  | [], ρ, j, s, h => .inr ⟨h, fun _ z => nomatch z⟩
  | .dat d :: as, ρ, j, s, h => by
    rcases clr_get as ρ j s h with e | ⟨e, n⟩
    · exact .inl e
    · exact .inr ⟨e, fun c z => (List.mem_cons.mp z).elim (fun z => nomatch z) (n c)⟩
  | .var i :: as, ρ, j, s, h => by
    unfold clr at h
    rcases clr_get as _ j s h with e | ⟨e, n⟩
    · exact .inl e
    · split at e
      · rename_i c hc
        by_cases hij : i = j
        · subst hij
          rw [List.getElem?_set] at e
          simp only [if_true] at e
          split at e
          · exact .inl (Option.some.inj e).symm
          · cases e
        · rw [List.getElem?_set_ne hij] at e
          refine .inr ⟨e, fun c z => ?_⟩
          rcases List.mem_cons.mp z with z | z
          · cases z; exact hij rfl
          · exact n c z
      · rename_i hc
        refine .inr ⟨e, fun ⟨c, hs⟩ z => ?_⟩
        rcases List.mem_cons.mp z with z | z
        · cases z
          subst hs
          exact hc c e
        · exact n ⟨c, hs⟩ z
theorem put_get : ∀ (as : List Ar) (ss : List Sl) (ρ : Ro) (j : Nat) (s : Sl), (put as ss ρ)[j]? = some s → ρ[j]? = some s ∨ ∃ (k : Nat) (c : Ow), as[k]? = some (.var j) ∧ ss[k]? = some (.own c) ∧ s = .own c
  | [], _, ρ, j, s, h => .inl h
  | .dat _ :: _, [], ρ, j, s, h => .inl h
  | .var _ :: _, [], ρ, j, s, h => .inl h
  | .dat _ :: as, t :: ss, ρ, j, s, h => by
    rcases put_get as ss ρ j s h with e | ⟨k, c, a, b, e⟩
    · exact .inl e
    · exact .inr ⟨k + 1, c, by simpa using a, by simpa using b, e⟩
  | .var i :: as, t :: ss, ρ, j, s, h => by
    unfold put at h
    rcases put_get as ss _ j s h with e | ⟨k, c, a, b, e⟩
    · split at e
      · rename_i c
        by_cases hij : i = j
        · subst hij
          rw [List.getElem?_set] at e
          simp only [if_true] at e
          split at e
          · exact .inr ⟨0, c, rfl, rfl, (Option.some.inj e).symm⟩
          · cases e
        · rw [List.getElem?_set_ne hij] at e
          exact .inl e
      · exact .inl e
    · exact .inr ⟨k + 1, c, by simpa using a, by simpa using b, e⟩
theorem clr_length : ∀ (as : List Ar) (ρ : Ro), (clr as ρ).length = ρ.length
  | [], ρ => rfl
  | .dat _ :: as, ρ => clr_length as ρ
  | .var i :: as, ρ => by
    unfold clr
    rw [clr_length]
    split <;> simp
theorem put_length : ∀ (as : List Ar) (ss : List Sl) (ρ : Ro), (put as ss ρ).length = ρ.length
  | [], _, ρ => rfl
  | .dat _ :: _, [], ρ => rfl
  | .var _ :: _, [], ρ => rfl
  | .dat _ :: as, _ :: ss, ρ => put_length as ss ρ
  | .var i :: as, s :: ss, ρ => by
    unfold put
    rw [put_length]
    split <;> simp
theorem ownIx_mem {ρ : Ro} : ∀ {as : List Ar} {k : Nat} {i : Nat} {c : Ow}, as[k]? = some (.var i) → ρ[i]? = some (.own c) → i ∈ ownIx ρ as
  | [], _, _, _, h, _ => by simp at h
  | .dat _ :: as, 0, _, _, h, _ => by simp at h
  | .var j :: as, 0, i, c, h, e => by
    simp at h
    subst h
    unfold ownIx
    rw [e]
    exact List.mem_cons_self
  | .dat _ :: as, k + 1, i, c, h, e => ownIx_mem (as := as) (k := k) (by simpa using h) e
  | .var j :: as, k + 1, i, c, h, e => by
    have := ownIx_mem (as := as) (k := k) (i := i) (c := c) (by simpa using h) e
    unfold ownIx
    split
    · exact List.mem_cons_of_mem _ this
    · exact this
theorem ownIx_inj {ρ : Ro} : ∀ {as : List Ar} {k l : Nat} {i : Nat} {c : Ow}, (ownIx ρ as).Nodup → as[k]? = some (.var i) → as[l]? = some (.var i) → ρ[i]? = some (.own c) → k = l
  | [], _, _, _, _, _, h, _, _ => by simp at h
  | .dat _ :: as, 0, _, _, _, _, h, _, _ => by simp at h
  | .dat _ :: as, _ + 1, 0, _, _, _, _, h, _ => by simp at h
  | .dat _ :: as, k + 1, l + 1, i, c, nd, h1, h2, e => by
    have := ownIx_inj (as := as) (k := k) (l := l) (i := i) (c := c) nd (by simpa using h1) (by simpa using h2) e
    omega
  | .var j :: as, 0, 0, i, c, nd, h1, h2, e => rfl
  | .var j :: as, 0, l + 1, i, c, nd, h1, h2, e => by
    simp at h1
    subst h1
    unfold ownIx at nd
    rw [e] at nd
    exact absurd (ownIx_mem (as := as) (k := l) (by simpa using h2) e) (List.nodup_cons.mp nd).1
  | .var j :: as, k + 1, 0, i, c, nd, h1, h2, e => by
    simp at h2
    subst h2
    unfold ownIx at nd
    rw [e] at nd
    exact absurd (ownIx_mem (as := as) (k := k) (by simpa using h1) e) (List.nodup_cons.mp nd).1
  | .var j :: as, k + 1, l + 1, i, c, nd, h1, h2, e => by
    have nd' : (ownIx ρ as).Nodup := by
      unfold ownIx at nd
      split at nd
      · exact (List.nodup_cons.mp nd).2
      · exact nd
    have := ownIx_inj (as := as) (k := k) (l := l) (i := i) (c := c) nd' (by simpa using h1) (by simpa using h2) e
    omega
structure FOk (n : Nat) (F : List Sl → Option (D × List Sl)) : Prop where
  len : ∀ ss r, F ss = some r → ss.length = n
  own : ∀ ss d ss' (l : Nat) (c : Ow), F ss = some (d, ss') → ss'[l]? = some (.own c) → ∃ c0, ss[l]? = some (.own c0)
def spO (K : Fr) (F : List Sl → Option (D × List Sl)) (n : Nat) : Sp := fun vs H Q _ => vs.length = n ∧ ∃ R G ss d ss', Rep K R G H ss (vs.map some) ∧ F ss = some (d, ss') ∧ ∀ G' H' v, Same G G' → Rep K R G' H' ss' (vs.map some) → Dq K G' v d → Q v H'
section
variable {X : Cx} {e : Expr} {es : List Expr} {pos p : Pos}
theorem qy_nil : QY X [] yNil := PA.imp pa_nil fun σ H Q h => by
  obtain ⟨R, G, ρ, d, ρ', rp, e, k⟩ := h
  cases e
  exact k G H [] (.refl _) rp .nil
theorem qy_dat {m : M D} {n : M (List Ar)} (ha : QE X e m) (hr : QY X es n) (hs : starEach (e :: es) X.env = (false, eval e X.env) :: starEach es X.env := by rfl) : QY X (e :: es) (yDat m n) := by
  refine PA.imp (pa_cons ha hr hs) fun σ H Q h => ?_
  obtain ⟨R, G, ρ, d, ρ', rp, e, k⟩ := h
  unfold yDat at e
  rw [Option.bind_eq_some_iff] at e
  obtain ⟨⟨x, ρ1⟩, h1, e⟩ := e
  rw [Option.map_eq_some_iff] at e
  obtain ⟨⟨y, ρ2⟩, h2, e⟩ := e
  cases e
  refine ⟨R, G, ρ, x, ρ1, rp, h1, fun G1 H1 v1 s1 r1 d1 => ?_⟩
  refine ⟨R, G1, ρ1, y, _, r1, h2, fun G2 H2 v2 s2 r2 d2 => ?_⟩
  exact k G2 H2 (v1 :: v2) (s1.trans s2) r2 (.dat (Dq_mono s2 d1) d2)
theorem qy_var (i : Nat) {x : Str} {n : M (List Ar)} (hr : QY X es n) (hN : X.N[i]? = some x := by rfl) (hv : Vis X.env.scope x := by first | exact Or.inl rfl | exact Or.inr (Or.inl rfl) | exact Or.inr (Or.inr rfl)) (hd : (x == ("__debug__" : Str)) = false := by decide)
    (hcd : (x == ("__classdict__" : Str)) = false := by decide) (hs : starEach (.Name x p :: es) X.env = (false, eval (.Name x p) X.env) :: starEach es X.env := by rfl) : QY X (.Name x p :: es) (yVar i n) := by
  refine PA.imp (pa_cons (pe_var hN hv hd hcd) hr hs) fun σ H Q h => ?_
  obtain ⟨R, G, ρ, d, ρ', rp, e, k⟩ := h
  unfold yVar at e
  rw [Option.bind_eq_some_iff] at e
  obtain ⟨s, h1, e⟩ := e
  split at e
  · rename_i href
    rw [Option.map_eq_some_iff] at e
    obtain ⟨⟨y, ρ2⟩, h2, e⟩ := e
    cases e
    have so := rp.slot i s h1
    obtain ⟨v, ev⟩ : ∃ v, σ[i]? = some (some v) := by
      cases s with
      | un => cases href
      | dat d => cases href
      | scr ns => obtain ⟨a, e, _⟩ := so; exact ⟨_, e⟩
      | own c => obtain ⟨a, _, e, _⟩ := so; exact ⟨_, e⟩
    refine ⟨v, ev, R, G, ρ, y, _, rp, h2, fun G2 H2 v2 s2 r2 d2 => ?_⟩
    exact k G2 H2 (v :: v2) s2 r2 (.var ev d2)
  · cases e
theorem qe_callO {x : Str} {k : Nat} {f : Addr} {fd : FuncData} {ps : List Str} {F : List Sl → Option (D × List Sl)} {n : Nat} {m : M (List Ar)} (FO : FnOk X.prog X.w X.K X.mg X.base CX0 k f fd ps (spO X.K F n)) (hr : Room k X.A) (hm : X.mg x = some (.ref f)) (hk : PySem.W.keepIn X.K (.ref f) = true) (hb : Binds X.K fd ps [])
    (ha : QY X (e :: es) m) (hF : FOk n F) (hg : Gl X x := by rfl) (hdb : (x == ("__debug__" : Str)) = false := by decide) (he : starEach (e :: es) X.env = (false, eval e X.env) :: starEach es X.env := by rfl) (hpl : (backTo pos (starEach es X.env)).any (·.1) = false := by rfl) :
    QE X (.Call (.Name x p) (e :: es) [] pos) (eAppO F m) := by
  refine PE.imp (pe_call (E := fun _ _ _ => False) FO hr hg hm hk hb .nil pass0 ha hdb he hpl) fun σ H Q h => ?_
  obtain ⟨R, G, ρ, d, ρ', rp, e, k⟩ := h
  unfold eAppO at e
  rw [Option.bind_eq_some_iff] at e
  obtain ⟨⟨as, ρ1⟩, h1, e⟩ := e
  simp only at e
  split at e
  · rename_i nd
    rw [Option.map_eq_some_iff] at e
    obtain ⟨⟨d', ss'⟩, h2, e⟩ := e
    cases e
    refine ⟨R, G, ρ, as, ρ1, rp, h1, fun G1 H1 vs s1 r1 d1 => ?_⟩
    show spO X.K F n (vs ++ []) H1 Q _
    rw [List.append_nil]
    refine ⟨by rw [d1.length, ← hF.len _ _ h2, List.length_map], ?_⟩
    -- the addresses that are handed on
    let Pd : Addr → Prop := fun a => ∃ (l i : Nat) (c : Ow), as[l]? = some (.var i) ∧ ρ1[i]? = some (.own c) ∧ σ[i]? = some (some (.ref a))
    let Rc : Hp := fun a => open Classical in if G1 a = none ∧ ¬ Pd a then H1 a else none
    have hRc : ∀ a o, Rc a = some o → (G1 a = none ∧ ¬ Pd a) ∧ H1 a = some o := fun a o q => by
      have q' : (open Classical in if G1 a = none ∧ ¬ Pd a then H1 a else none) = some o := q
      split at q'
      · rename_i z; exact ⟨z, q'⟩
      · cases q'
    have hRi : ∀ a o, G1 a = none → ¬ Pd a → H1 a = some o → Rc a = some o := fun a o z1 z2 q => by
      show (open Classical in if G1 a = none ∧ ¬ Pd a then H1 a else none) = some o
      rw [if_pos ⟨z1, z2⟩]; exact q
    have hRn : ∀ a, Pd a → Rc a = none := fun a z => by
      show (open Classical in if G1 a = none ∧ ¬ Pd a then H1 a else none) = none
      rw [if_neg fun q => q.2 z]
    have vget : ∀ (l : Nat) (v : V), vs[l]? = some v → (vs.map some)[l]? = some (some v) := fun l v h => by rw [List.getElem?_map, h]; rfl
    have rep : Rep X.K Rc G1 H1 (as.map (toSl ρ1)) (vs.map some) := by
      refine ⟨by simp [d1.length], fun a o q => (hRc a o q).2, r1.subG, fun a o q => (hRc a o q).1.1, fun l s hs => ?_, fun l l' c c' q e1 e2 e3 e4 => ?_⟩
      · rw [List.getElem?_map] at hs
        cases ha : as[l]? with
        | none => rw [ha] at hs; cases hs
        | some a =>
          rw [ha] at hs
          cases hs
          obtain ⟨v, hv, dv⟩ := d1.get ha
          rw [vget l v hv]
          cases a with
          | dat d => exact ⟨v, rfl, dv⟩
          | var i =>
            show SlOk X.K Rc G1 H1 ((ρ1[i]?).getD .un) _
            cases hi : ρ1[i]? with
            | none => trivial
            | some s =>
              have so := r1.slot i s hi
              have dv : σ[i]? = some (some v) := dv
              rw [dv] at so
              cases s with
              | un => trivial
              | dat d => exact so
              | scr ns => exact so
              | own c =>
                obtain ⟨q, ho, e, a1, a2, a3, a4⟩ := so
                cases e
                exact ⟨q, ho, rfl, a1, a2, hRn q ⟨l, i, c, ha, hi, dv⟩, a4⟩
      · have own : ∀ (l : Nat) (c : Ow), (as.map (toSl ρ1))[l]? = some (.own c) → (vs.map some)[l]? = some (some (.ref q)) → ∃ i, as[l]? = some (.var i) ∧ ρ1[i]? = some (.own c) ∧ σ[i]? = some (some (.ref q)) := fun l c e1 e3 => by
          rw [List.getElem?_map] at e1
          cases ha : as[l]? with
          | none => rw [ha] at e1; cases e1
          | some a =>
            rw [ha] at e1
            obtain ⟨v, hv, dv⟩ := d1.get ha
            rw [vget l v hv] at e3
            cases e3
            cases a with
            | dat d => cases e1
            | var i =>
              refine ⟨i, rfl, ?_, dv⟩
              have e1' : (ρ1[i]?).getD .un = .own c := Option.some.inj e1
              cases hi : ρ1[i]? with
              | none => rw [hi] at e1'; cases e1'
              | some s => rw [hi] at e1'; cases e1'; rfl
        obtain ⟨i, a1, b1, c1⟩ := own l c e1 e3
        obtain ⟨j, a2, b2, c2⟩ := own l' c' e2 e4
        have : i = j := r1.apart i j c c' q b1 b2 c1 c2
        subst this
        exact ownIx_inj nd a1 a2 b1
    refine ⟨Rc, G1, _, d', ss', rep, h2, fun G2 H2 v s2 r2 dv => k G2 H2 v (s1.trans s2) ?_ dv⟩
    -- back in the caller
    have keepH : ∀ a o, H1 a = some o → G1 a = none → ¬ Pd a → H2 a = some o ∧ G2 a = none := fun a o q g np => ⟨r2.subR a o (hRi a o g np q), r2.dis a o (hRi a o g np q)⟩
    have nPR : ∀ a o, R a = some o → ¬ Pd a := fun a o q ⟨l, i, c, _, hi, es⟩ => by
      obtain ⟨q', ho, e', _, _, rq, _⟩ := r1.slot i _ hi
      rw [es] at e'
      cases e'
      rw [q] at rq; cases rq
    have good : ∀ (j : Nat) (s : Sl), (put as ss' (clr as ρ1))[j]? = some s → SlOk X.K R G2 H2 s σ[j]? ∧ ∀ c, s = .own c → ∃ c', ρ1[j]? = some (.own c') := fun j s hs => by
      rcases put_get as ss' _ j s hs with hs | ⟨l, c, al, sl, rfl⟩
      · rcases clr_get as ρ1 j s hs with rfl | ⟨hs, nv⟩
        · exact ⟨trivial, fun c z => nomatch z⟩
        · have so := r1.slot j s hs
          cases s with
          | un => exact ⟨trivial, fun c z => nomatch z⟩
          | dat d => obtain ⟨v, e, x⟩ := so; exact ⟨⟨v, e, Dq_mono s2 x⟩, fun c z => nomatch z⟩
          | scr ns => obtain ⟨v, e, x⟩ := so; exact ⟨⟨v, e, s2.seq x⟩, fun c z => nomatch z⟩
          | own c =>
            obtain ⟨q, ho, e, a1, a2, a3, a4⟩ := so
            have np : ¬ Pd q := fun ⟨l, i, c', al, hi, es⟩ => by
              have : i = j := r1.apart i j c' c q hi hs es e
              subst this
              exact nv ⟨c, rfl⟩ (List.mem_of_getElem? al)
            obtain ⟨b1, b2⟩ := keepH q ho a1 a2 np
            exact ⟨⟨q, ho, e, b1, b2, a3, OwOk_mono s2 a4⟩, fun c' z => ⟨c, hs⟩⟩
      · obtain ⟨v, hv, dv⟩ := d1.get al
        have dv : σ[j]? = some (some v) := dv
        have so := r2.slot l _ sl
        rw [vget l v hv] at so
        obtain ⟨q, ho, e, a1, a2, a3, a4⟩ := so
        cases e
        -- was the slot own? the callee's slot was: else it could not be
        have hown : ∃ c', ρ1[j]? = some (.own c') := by
          obtain ⟨c0, hc0⟩ : ∃ c0, (as.map (toSl ρ1))[l]? = some (.own c0) := by
            exact hF.own _ _ _ l c h2 sl
          rw [List.getElem?_map, al] at hc0
          have e1' : (ρ1[j]?).getD .un = .own c0 := Option.some.inj hc0
          cases hi : ρ1[j]? with
          | none => rw [hi] at e1'; cases e1'
          | some s => rw [hi] at e1'; cases e1'; exact ⟨_, rfl⟩
        refine ⟨⟨q, ho, dv, a1, a2, ?_, a4⟩, fun c' _ => hown⟩
        obtain ⟨c', hc'⟩ := hown
        obtain ⟨q', ho', e', _, _, rq, _⟩ := r1.slot j _ hc'
        rw [dv] at e'
        cases e'
        exact rq
    refine ⟨by rw [put_length, clr_length]; exact r1.len, fun a o q => ?_, r2.subG, fun a o q => ?_, fun j s hs => (good j s hs).1, fun i j c c' q e1 e2 e3 e4 => ?_⟩
    · exact (keepH a o (r1.subR a o q) (r1.dis a o q) (nPR a o q)).1
    · exact (keepH a o (r1.subR a o q) (r1.dis a o q) (nPR a o q)).2
    · obtain ⟨c1, h1⟩ := (good i _ e1).2 c rfl
      obtain ⟨c2, h2⟩ := (good j _ e2).2 c' rfl
      exact r1.apart i j c1 c2 q h1 h2 e3 e4
  · cases e
end

/-! ### a def that is given objects of its caller's -/
def pick : Sl → Sl → Sl
  | .own _, .own c => .own c
  | .own _, _ => .un
  | s, _ => s
def backO : List Sl → Ro → List Sl
  | [], _ => []
  | s :: ss, [] => s :: backO ss []
  | s :: ss, r :: rs => pick s r :: backO ss rs
/-- all own things stand at the places os -/
def ownsIn (os : List Nat) : Nat → List Sl → Bool
  | _, [] => true
  | i, .own _ :: ss => os.contains i && ownsIn os (i + 1) ss
  | i, .un :: ss => ownsIn os (i + 1) ss
  | i, .dat _ :: ss => ownsIn os (i + 1) ss
  | i, .scr _ :: ss => ownsIn os (i + 1) ss
theorem ownsIn_get {os : List Nat} : ∀ (ss : List Sl) (i l : Nat) (c : Ow), ownsIn os i ss = true → ss[l]? = some (.own c) → i + l ∈ os
  | [], i, l, c, _, h => by simp at h
  | .own c0 :: ss, i, 0, c, h, _ => by
    unfold ownsIn at h
    rw [Bool.and_eq_true] at h
    simpa using h.1
  | .un :: ss, i, 0, c, h, e => by simp at e
  | .dat _ :: ss, i, 0, c, h, e => by simp at e
  | .scr _ :: ss, i, 0, c, h, e => by simp at e
  | .own c0 :: ss, i, l + 1, c, h, e => by
    unfold ownsIn at h
    rw [Bool.and_eq_true] at h
    have := ownsIn_get ss (i + 1) l c h.2 (by simpa using e)
    rw [show i + (l + 1) = i + 1 + l by omega]; exact this
  | .un :: ss, i, l + 1, c, h, e => by
    have := ownsIn_get ss (i + 1) l c h (by simpa using e)
    rw [show i + (l + 1) = i + 1 + l by omega]; exact this
  | .dat _ :: ss, i, l + 1, c, h, e => by
    have := ownsIn_get ss (i + 1) l c h (by simpa using e)
    rw [show i + (l + 1) = i + 1 + l by omega]; exact this
  | .scr _ :: ss, i, l + 1, c, h, e => by
    have := ownsIn_get ss (i + 1) l c h (by simpa using e)
    rw [show i + (l + 1) = i + 1 + l by omega]; exact this
def endO (ss : List Sl) : Fl × Ro → Option (D × List Sl)
  | (.rt d, ρ) => some (d, backO ss ρ)
  | (.nx, ρ) => some (.none, backO ss ρ)
  | _ => none
def runO (os : List Nat) (n N : Nat) (body : MS) : List Sl → Option (D × List Sl) := fun ss => if ss.length = n ∧ n ≤ N ∧ ownsIn os 0 ss = true then (body (ss ++ List.replicate (N - n) Sl.un)).bind fun p => if n ≤ p.2.length then endO ss p else none else none
theorem backO_get : ∀ (ss : List Sl) (ρ : Ro) (l : Nat) (s : Sl), ss.length ≤ ρ.length → (backO ss ρ)[l]? = some s → ∃ s0 r, ss[l]? = some s0 ∧ ρ[l]? = some r ∧ s = pick s0 r
  | [], _, l, s, _, h => by simp [backO] at h
  | s0 :: ss, [], l, s, hl, h => by simp at hl
  | s0 :: ss, r :: rs, 0, s, hl, h => by
    simp [backO] at h
    exact ⟨s0, r, rfl, rfl, h.symm⟩
  | s0 :: ss, r :: rs, l + 1, s, hl, h => by
    have h' : (backO ss rs)[l]? = some s := by simpa [backO] using h
    obtain ⟨a, b, c, d, e⟩ := backO_get ss rs l s (by simpa using hl) h'
    exact ⟨a, b, by simpa using c, by simpa using d, e⟩
theorem backO_length : ∀ (ss : List Sl) (ρ : Ro), (backO ss ρ).length = ss.length
  | [], _ => rfl
  | s :: ss, [] => by simp [backO, backO_length ss []]
  | s :: ss, r :: rs => by simp [backO, backO_length ss rs]
/-- the body keeps how many slots there are -/
def LenOk (b : MS) : Prop := ∀ ρ f ρ', b ρ = some (f, ρ') → ρ'.length = ρ.length
theorem pick_own {s r : Sl} {c : Ow} (h : pick s r = .own c) : (∃ c0, s = .own c0) ∧ r = .own c := by
  cases s with
  | un => cases h
  | dat d => cases h
  | scr ns => cases h
  | own c0 =>
    refine ⟨⟨c0, rfl⟩, ?_⟩
    cases r <;> first | (cases h; rfl) | cases h
theorem backO_own : ∀ (ss : List Sl) (ρ : Ro) (l : Nat) (c : Ow), (backO ss ρ)[l]? = some (.own c) → ∃ c0, ss[l]? = some (.own c0)
  | [], _, l, c, h => by simp [backO] at h
  | s0 :: ss, [], 0, c, h => by simp [backO] at h; exact ⟨c, by simp [h]⟩
  | s0 :: ss, [], l + 1, c, h => by
    obtain ⟨c0, e⟩ := backO_own ss [] l c (by simpa [backO] using h)
    exact ⟨c0, by simpa using e⟩
  | s0 :: ss, r :: rs, 0, c, h => by
    simp [backO] at h
    obtain ⟨⟨c0, e⟩, _⟩ := pick_own h
    exact ⟨c0, by simp [e]⟩
  | s0 :: ss, r :: rs, l + 1, c, h => by
    obtain ⟨c0, e⟩ := backO_own ss rs l c (by simpa [backO] using h)
    exact ⟨c0, by simpa using e⟩
theorem runO_ok {os : List Nat} {n N : Nat} {body : MS} : FOk n (runO os n N body) where
  len := by
    intro ss r h
    unfold runO at h
    split at h
    · rename_i z; exact z.1
    · cases h
  own := by
    intro ss d ss' l c h e
    unfold runO at h
    split at h
    · rw [Option.bind_eq_some_iff] at h
      obtain ⟨⟨f, ρ'⟩, h1, h⟩ := h
      split at h
      · cases f <;> cases h
        · exact backO_own _ _ l c e
        · exact backO_own _ _ l c e
      · cases h
    · cases h
theorem fOk0 {n : Nat} : FOk n (fun _ => none) := ⟨(fun _ _ h => nomatch h), (fun _ _ _ _ _ h => nomatch h)⟩
/-- os: the slots that callers' objects come to; they are never set -/
theorem fnO {P : Program} {w : World} {K : Fr} {mg : Str → Option Value} {base : Heap} {x qual : Str} {st : Stmt} {f : Addr} {fd : FuncData} {N ps : List Str} {k : Nat} {W : List Nat} {body : MS} (F : Fun K x qual st f fd) (S : FnScope N ps (defScope st))
    (h : ∀ (cdv : Value) (A : Around) (outer : List Env) (s : Shared) (H : Hp) (E : XK), Room k (A.deeper (envOfC qual (defScope st) s.heap.objs.size f cdv)) → QSs (cxOf CX0 P w K mg base N qual (defScope st) f cdv A outer s H E).nox W (defBody st) body)
    (os : List Nat) (hW : ∀ i ∈ os, i ∉ W) (hN : ps.length ≤ N.length := by decide) : FnOk P w K mg base CX0 (k + 1) f fd ps (spO K (runO os ps.length N.length body) ps.length) := by
  refine F.ok S (fun vs H Q E h => h.1) (fun cdv A outer s H vs Q E hr hsp => ⟨_, h cdv A outer s H E hr, ?_⟩)
  obtain ⟨hl, R, G, ss, d, ss', rp, e, k⟩ := hsp
  unfold runO at e
  split at e
  · rename_i hn
    obtain ⟨hn, _, ho⟩ := hn
    rw [Option.bind_eq_some_iff] at e
    obtain ⟨⟨fl, ρ'⟩, h1, e⟩ := e
    simp only at e
    by_cases hlen : ps.length ≤ ρ'.length
    rotate_left
    · rw [if_neg hlen] at e; cases e
    rw [if_pos hlen] at e
    have hss : ss.length = vs.length := by rw [hn, hl]
    have sget : ∀ l : Nat, l < vs.length → (L2.start N vs)[l]? = (vs.map some)[l]? := fun l hl' => by
      show (vs.map some ++ _)[l]? = _
      rw [List.getElem?_append_left (by simpa using hl')]
    have rep0 : Rep K R G H (ss ++ List.replicate (N.length - ps.length) Sl.un) (L2.start N vs) := by
      have key : ∀ (i : Nat) (t : Sl), (ss ++ List.replicate (N.length - ps.length) Sl.un)[i]? = some t → t = .un ∨ (ss[i]? = some t ∧ (L2.start N vs)[i]? = (vs.map some)[i]?) := fun i t ht => by
        by_cases hi : i < ss.length
        · rw [List.getElem?_append_left hi] at ht
          exact .inr ⟨ht, sget i (by rw [← hss]; exact hi)⟩
        · rw [List.getElem?_append_right (by omega), List.getElem?_replicate] at ht
          split at ht
          · exact .inl (Option.some.inj ht).symm
          · cases ht
      refine ⟨?_, rp.subR, rp.subG, rp.dis, fun i t ht => ?_, fun i j c c' p h1 h2 h3 h4 => ?_⟩
      · simp [L2.start, hss, hl]
      · rcases key i t ht with rfl | ⟨a, b⟩
        · trivial
        · rw [b]; exact rp.slot i t a
      · rcases key i _ h1 with z | ⟨a, b⟩
        · cases z
        · rcases key j _ h2 with z | ⟨a2, b2⟩
          · cases z
          · rw [b] at h3; rw [b2] at h4
            exact rp.apart i j c c' p a a2 h3 h4
    have fin : ∀ G' H' (σ' : L2.St), Same G G' → Rep K R G' H' ρ' σ' → Frm W (L2.start N vs) σ' → ss.length ≤ ρ'.length → Rep K R G' H' (backO ss ρ') (vs.map some) := fun G' H' σ' sG r fr hlen => by
      have own : ∀ (l : Nat) (c : Ow), (backO ss ρ')[l]? = some (.own c) → ρ'[l]? = some (.own c) ∧ σ'[l]? = (vs.map some)[l]? := fun l c hs => by
        obtain ⟨s0, r0, a, b, e⟩ := backO_get ss ρ' l _ hlen hs
        obtain ⟨⟨c0, rfl⟩, rfl⟩ := pick_own e.symm
        refine ⟨b, ?_⟩
        have hm := ownsIn_get ss 0 l c0 ho a
        rw [Nat.zero_add] at hm
        rw [fr l (hW l hm), sget l (by rw [← hss]; exact (List.getElem?_eq_some_iff.mp a).1)]
      refine ⟨by rw [backO_length, List.length_map]; exact hss, r.subR, r.subG, r.dis, fun l t ht => ?_, fun i j c c' p h1 h2 h3 h4 => ?_⟩
      · obtain ⟨s0, r0, a, b, e⟩ := backO_get ss ρ' l t hlen ht
        subst e
        have so := rp.slot l s0 a
        cases s0 with
        | un => trivial
        | dat d => obtain ⟨v, e, x⟩ := so; exact ⟨v, e, Dq_mono sG x⟩
        | scr ns => obtain ⟨v, e, x⟩ := so; exact ⟨v, e, sG.seq x⟩
        | own c0 =>
          cases r0 with
          | un => trivial
          | dat d => trivial
          | scr ns => trivial
          | own c =>
            obtain ⟨o1, o2⟩ := own l c ht
            have := r.slot l _ o1
            rw [o2] at this
            exact this
      · obtain ⟨a1, b1⟩ := own i c h1
        obtain ⟨a2, b2⟩ := own j c' h2
        exact r.apart i j c c' p a1 a2 (by rw [b1]; exact h3) (by rw [b2]; exact h4)
    refine ⟨R, G, _, fl, ρ', rep0, h1, ?_⟩
    have hlenσ : ∀ G' H' (σ' : L2.St), Rep K R G' H' ρ' σ' → Frm W (L2.start N vs) σ' → True := fun _ _ _ _ _ => trivial
    cases fl with
    | nx =>
      cases e
      intro G' H' σ' s r fr
      exact k G' H' _ s (fin G' H' σ' s r fr (by rw [hn]; exact hlen)) .non
    | bk => cases e
    | ct => cases e
    | rt d =>
      cases e
      exact fun G' H' σ' v s r fr dv => k G' H' v s (fin G' H' σ' s r fr (by rw [hn]; exact hlen)) dv
  · cases e
end QL
set_option Elab.async false
set_option linter.all false
set_option maxRecDepth 100000
set_option maxHeartbeats 1000000
namespace QL
open PySem PySem.Spec PyProof.Rows L2

/-! ### the script -/
def scrAt (ρ : Ro) (i : Nat) : Option (List Int) := match ρ[i]? with
  | some (.scr ns) => some ns
  | _ => none
theorem scrAt_some {ρ : Ro} {i : Nat} {ns : List Int} (h : scrAt ρ i = some ns) : ρ[i]? = some (.scr ns) := by
  unfold scrAt at h
  split at h
  · cases h; assumption
  · cases h
def eLenS (i : Nat) : M D := fun ρ => (scrAt ρ i).map fun ns => (.int ns.length, ρ)
def eIxS (i : Nat) (a : M D) : M D := fun ρ => (scrAt ρ i).bind fun ns => (a ρ).bind fun p => match p.1 with
  | .int j => (atI ns j).map fun n => (.int n, p.2)
  | _ => none
def eEqNilS (i : Nat) : M D := fun ρ => (scrAt ρ i).map fun ns => (.bool ns.isEmpty, ρ)
def eNeNilO (i : Nat) : M D := fun ρ => (ownL ρ i).bind fun ds => if SeqAt.shaped (.list ds) = true then some (.bool (!ds.isEmpty), ρ) else none
def eEqNilO (i : Nat) : M D := fun ρ => (ownL ρ i).bind fun ds => if SeqAt.shaped (.list ds) = true then some (.bool ds.isEmpty, ρ) else none
theorem canLay_ints : ∀ ns : List Int, PyData.canLayAll0 (ns.map PyData.int) = true
  | [] => rfl
  | n :: ns => by
    rw [List.map_cons]
    unfold PyData.canLayAll0
    rw [canLay_ints ns]
    rfl
theorem depth_ints : ∀ ns : List Int, PyData.depthAll (ns.map PyData.int) = 0
  | [] => rfl
  | n :: ns => by
    rw [List.map_cons]
    unfold PyData.depthAll
    rw [depth_ints ns]
    rfl
theorem shaped_ints (ns : List Int) : SeqAt.shaped (.list (ns.map PyData.int)) = true := by
  unfold SeqAt.shaped
  rw [Bool.and_eq_true]
  refine ⟨canLay_ints ns, decide_eq_true ?_⟩
  show PyData.depthAll (ns.map PyData.int) + 1 ≤ 64
  rw [depth_ints]
  decide
theorem dpAll_ints {K : Fr} {H : Hp} : ∀ ns : List Int, DpAll K H (ns.map V.int) (ns.map PyData.int)
  | [] => .nil
  | n :: ns => .cons (.int n) (dpAll_ints ns)
theorem atI_map {α β : Type} (f : α → β) (xs : List α) (i : Int) : atI (xs.map f) i = (atI xs i).map f := by
  unfold atI
  rw [List.length_map]
  cases ixN xs.length i with
  | none => rfl
  | some j => simp
theorem eqv_nil (ds : List D) : PyData.eqv (.list ds) (.list []) = ds.isEmpty := by
  show PyData.eqvAll ds [] = _
  cases ds <;> rfl
section
variable {X : Cx} {a e : Expr} {es : List Expr} {pos p p2 : Pos} {x : Str} {k : Nat}
theorem qe_lenS (i : Nat) (hm : X.mg "len" = none) (hN : X.N[i]? = some x := by rfl) (hv : Vis X.env.scope x := by first | exact Or.inl rfl | exact Or.inr (Or.inl rfl) | exact Or.inr (Or.inr rfl)) (hd : (x == ("__debug__" : Str)) = false := by decide) (hcd : (x == ("__classdict__" : Str)) = false := by decide) (hg : Gl X "len" := by rfl)
    (hs : starEach [.Name x p] X.env = (false, eval (.Name x p) X.env) :: starEach [] X.env := by rfl) (hpl : (backTo pos (starEach [] X.env)).any (·.1) = false := by rfl) : QE X (.Call (.Name "len" p2) [.Name x p] [] pos) (eLenS i) := by
  refine PE.imp (pe_callB call_len_seq hg hm PySem.boot_len (pa_cons (pe_var hN hv hd hcd) pa_nil hs) (by decide) (by decide) hs hpl) fun σ H Q h => ?_
  obtain ⟨R, G, ρ, d, ρ', rp, e, k⟩ := h
  unfold eLenS at e
  rw [Option.map_eq_some_iff] at e
  obtain ⟨ns, h0, e⟩ := e
  cases e
  obtain ⟨q, eq, hq⟩ := rp.slot i _ (scrAt_some h0)
  refine ⟨.ref q, eq, q, _, rfl, .inl (rp.subG.seq hq), ?_⟩
  rw [List.length_map]
  exact k G H _ (.refl _) rp (.int _)
theorem qe_ixS (i : Nat) {m : M D} (ha : QE X a m) (hN : X.N[i]? = some x := by rfl) (hv : Vis X.env.scope x := by first | exact Or.inl rfl | exact Or.inr (Or.inl rfl) | exact Or.inr (Or.inr rfl)) (hd : (x == ("__debug__" : Str)) = false := by decide) (hcd : (x == ("__classdict__" : Str)) = false := by decide) (hs : PlainIx a := by exact fun _ _ => rfl) :
    QE X (.Subscript (.Name x p) a pos) (eIxS i m) := by
  refine PE.imp (pe_ix ix_list (pe_var hN hv hd hcd) ha hs) fun σ H Q h => ?_
  obtain ⟨R, G, ρ, d, ρ', rp, e, k⟩ := h
  unfold eIxS at e
  rw [Option.bind_eq_some_iff] at e
  obtain ⟨ns, h0, e⟩ := e
  rw [Option.bind_eq_some_iff] at e
  obtain ⟨⟨y, ρ1⟩, h1, e⟩ := e
  cases y <;> try (cases e; done)
  rename_i j
  simp only at e
  rw [Option.map_eq_some_iff] at e
  obtain ⟨z, hz, e⟩ := e
  cases e
  obtain ⟨q, eq, hq⟩ := rp.slot i _ (scrAt_some h0)
  refine ⟨.ref q, eq, R, G, ρ, .int j, _, rp, h1, fun G1 H1 v1 s1 r1 d1 => ?_⟩
  cases d1
  exact ⟨q, _, j, .int z, rfl, rfl, r1.subG.seq (s1.seq hq), by rw [atI_map, hz]; rfl, k G1 H1 _ s1 r1 (.int _)⟩
theorem eqNilS_read {i : Nat} {σ : St} {H : Hp} {Q : VK} {K : Fr} (h : tM K (eEqNilS i) σ H Q) : tOp (rEqD K) (tVar i) (tLst tNil) σ H Q := by
  obtain ⟨R, G, ρ, d, ρ', rp, e, k⟩ := h
  unfold eEqNilS at e
  rw [Option.map_eq_some_iff] at e
  obtain ⟨ns, h0, e⟩ := e
  cases e
  obtain ⟨q, eq, hq⟩ := rp.slot i _ (scrAt_some h0)
  refine ⟨.ref q, eq, by decide, fun l hl => ?_⟩
  have g : Gr G H G (upd H l (.lst [])) := Gr.junk rp.subG hl
  refine ⟨.list (ns.map PyData.int), .list [], .lst (g.hh.seq (rp.subG.seq hq)) (dpAll_ints ns), .lst (SqL.of upd_same) .nil, shaped_ints ns, by decide, ?_⟩
  have e1 : PyData.eqv (.list (ns.map PyData.int)) (.list []) = ns.isEmpty := by
    rw [eqv_nil]
    cases ns <;> rfl
  rw [e1]
  exact k G _ _ (.refl _) (rp.grow g) (.bl _)
theorem qe_eqNilS (i : Nat) (hr : Room k X.A) (hN : X.N[i]? = some x := by rfl) (hv : Vis X.env.scope x := by first | exact Or.inl rfl | exact Or.inr (Or.inl rfl) | exact Or.inr (Or.inr rfl)) (hd : (x == ("__debug__" : Str)) = false := by decide) (hcd : (x == ("__classdict__" : Str)) = false := by decide) :
    QE X (.Compare (.Name x p) [.Eq] [.List [] p2] pos) (eEqNilS i) := PE.imp (pe_cmpR (op_eqD hr.units) (pe_var hN hv hd hcd) (pe_lst pa_nil) (nomark _)) fun σ H Q h => eqNilS_read h
theorem qt_eqNilS (i : Nat) (hr : Room k X.A) (hN : X.N[i]? = some x := by rfl) (hv : Vis X.env.scope x := by first | exact Or.inl rfl | exact Or.inr (Or.inl rfl) | exact Or.inr (Or.inr rfl)) (hd : (x == ("__debug__" : Str)) = false := by decide) (hcd : (x == ("__classdict__" : Str)) = false := by decide) :
    QT X (.Compare (.Name x p) [.Eq] [.List [] p2] pos) (cV (eEqNilS i)) := PT.imp (pt_cmpR (op_eqD hr.units) (pe_var hN hv hd hcd) (pe_lst pa_nil) (nomark _)) fun σ H Q h => eqNilS_read (tM_cV h)
theorem neNilO_read {i : Nat} {σ : St} {H : Hp} {Q : VK} {K : Fr} (h : tM K (eNeNilO i) σ H Q) : tOp (rNeD K) (tVar i) (tLst tNil) σ H Q := by
  obtain ⟨R, G, ρ, d, ρ', rp, e, k⟩ := h
  unfold eNeNilO at e
  rw [Option.bind_eq_some_iff] at e
  obtain ⟨ds, h0, e⟩ := e
  split at e
  · rename_i hsh
    cases e
    obtain ⟨q, vs, eq, hq, dv⟩ := rp.ownAt (ownL_some h0)
    refine ⟨.ref q, eq, by decide, fun l hl => ?_⟩
    have g : Gr G H G (upd H l (.lst [])) := Gr.junk rp.subG hl
    refine ⟨.list ds, .list [], .lst (SqL.of (g.hh _ _ hq)) (DqAll.dp (rp.subG.trans g.hh) dv), .lst (SqL.of upd_same) .nil, hsh, by decide, ?_⟩
    rw [eqv_nil]
    exact k G _ _ (.refl _) (rp.grow g) (.bl _)
  · cases e
theorem eqNilO_read {i : Nat} {σ : St} {H : Hp} {Q : VK} {K : Fr} (h : tM K (eEqNilO i) σ H Q) : tOp (rEqD K) (tVar i) (tLst tNil) σ H Q := by
  obtain ⟨R, G, ρ, d, ρ', rp, e, k⟩ := h
  unfold eEqNilO at e
  rw [Option.bind_eq_some_iff] at e
  obtain ⟨ds, h0, e⟩ := e
  split at e
  · rename_i hsh
    cases e
    obtain ⟨q, vs, eq, hq, dv⟩ := rp.ownAt (ownL_some h0)
    refine ⟨.ref q, eq, by decide, fun l hl => ?_⟩
    have g : Gr G H G (upd H l (.lst [])) := Gr.junk rp.subG hl
    refine ⟨.list ds, .list [], .lst (SqL.of (g.hh _ _ hq)) (DqAll.dp (rp.subG.trans g.hh) dv), .lst (SqL.of upd_same) .nil, hsh, by decide, ?_⟩
    rw [eqv_nil]
    exact k G _ _ (.refl _) (rp.grow g) (.bl _)
  · cases e
theorem qe_neNilO (i : Nat) (hr : Room k X.A) (hN : X.N[i]? = some x := by rfl) (hv : Vis X.env.scope x := by first | exact Or.inl rfl | exact Or.inr (Or.inl rfl) | exact Or.inr (Or.inr rfl)) (hd : (x == ("__debug__" : Str)) = false := by decide) (hcd : (x == ("__classdict__" : Str)) = false := by decide) :
    QE X (.Compare (.Name x p) [.NotEq] [.List [] p2] pos) (eNeNilO i) := PE.imp (pe_cmpR (op_neD hr.units) (pe_var hN hv hd hcd) (pe_lst pa_nil) (nomark _)) fun σ H Q h => neNilO_read h
theorem qt_neNilO (i : Nat) (hr : Room k X.A) (hN : X.N[i]? = some x := by rfl) (hv : Vis X.env.scope x := by first | exact Or.inl rfl | exact Or.inr (Or.inl rfl) | exact Or.inr (Or.inr rfl)) (hd : (x == ("__debug__" : Str)) = false := by decide) (hcd : (x == ("__classdict__" : Str)) = false := by decide) :
    QT X (.Compare (.Name x p) [.NotEq] [.List [] p2] pos) (cV (eNeNilO i)) := PT.imp (pt_cmpR (op_neD hr.units) (pe_var hN hv hd hcd) (pe_lst pa_nil) (nomark _)) fun σ H Q h => neNilO_read (tM_cV h)
theorem qe_eqNilO (i : Nat) (hr : Room k X.A) (hN : X.N[i]? = some x := by rfl) (hv : Vis X.env.scope x := by first | exact Or.inl rfl | exact Or.inr (Or.inl rfl) | exact Or.inr (Or.inr rfl)) (hd : (x == ("__debug__" : Str)) = false := by decide) (hcd : (x == ("__classdict__" : Str)) = false := by decide) :
    QE X (.Compare (.Name x p) [.Eq] [.List [] p2] pos) (eEqNilO i) := PE.imp (pe_cmpR (op_eqD hr.units) (pe_var hN hv hd hcd) (pe_lst pa_nil) (nomark _)) fun σ H Q h => eqNilO_read h
theorem qt_eqNilO (i : Nat) (hr : Room k X.A) (hN : X.N[i]? = some x := by rfl) (hv : Vis X.env.scope x := by first | exact Or.inl rfl | exact Or.inr (Or.inl rfl) | exact Or.inr (Or.inr rfl)) (hd : (x == ("__debug__" : Str)) = false := by decide) (hcd : (x == ("__classdict__" : Str)) = false := by decide) :
    QT X (.Compare (.Name x p) [.Eq] [.List [] p2] pos) (cV (eEqNilO i)) := PT.imp (pt_cmpR (op_eqD hr.units) (pe_var hN hv hd hcd) (pe_lst pa_nil) (nomark _)) fun σ H Q h => eqNilO_read (tM_cV h)

/-! ### name += e (ints) -/
def sAug (i : Nat) (a : M D) : MS := fun ρ => match ρ[i]? with
  | some (.dat (.int n)) => (a ρ).bind fun p => match p.1 with
    | .int j => some (.nx, p.2.set i (.dat (.int (n + j))))
    | _ => none
  | _ => none
theorem qs_aug (i : Nat) {m : M D} {pos' : Pos} (hN : X.N.Nodup) (he : QE X e m) (hi : X.N[i]? = some x := by rfl) (hx : Loc X.env.scope x := by first | exact Or.inl rfl | exact Or.inr rfl) (hf : X.fn x = true ∨ X.env.scope.names.lookup x = some .local := by first | exact .inl rfl | exact .inr rfl | assumption) :
    QS X [i] (.AugAssign (.Name x pos') .Add e pos) (sAug i m) := by
  refine PS.imp (ps_aug hN hi hx he ip_add hf) fun E σ H h => ?_
  obtain ⟨R, G, ρ, f, ρ', rp, e, k⟩ := h
  unfold sAug at e
  split at e
  · rename_i n hs
    rw [Option.bind_eq_some_iff] at e
    obtain ⟨⟨y, ρ1⟩, h1, e⟩ := e
    cases y <;> try (cases e; done)
    rename_i j
    cases e
    obtain ⟨v, ev, dv⟩ := rp.slot i _ hs
    cases dv
    refine ⟨.int n, ev, R, G, ρ, .int j, ρ1, rp, h1, fun G1 H1 v1 s1 r1 d1 => ?_⟩
    cases d1
    exact ⟨n, j, rfl, rfl, k G1 H1 _ s1 (r1.setD (.int _)) (fun l hl => List.getElem?_set_ne fun z => hl (by simp [z]))⟩
  · cases e
/-! ### an own list from an expression that makes a new one -/
/-- [x] * n, to be owned -/
def oRep (a b : M D) : M Ow := fun ρ => (a ρ).bind fun p => (b p.2).bind fun q => match p.1, q.1 with
  | .list xs, .int k => if 0 ≤ k ∧ k ≤ 1000 ∧ xs.length ≤ 1000 then some (.lst (List.replicate k.toNat xs).flatten, q.2) else none
  | _, _ => none
theorem qo_rep {b : Expr} {m n : M D} (ha : QE X a m) (hb : QE X b n) : QO X (.BinOp a .Mult b pos) (oRep m n) := by
  refine PE.imp (pe_op op_rep ha hb) fun σ H Q h => ?_
  obtain ⟨R, G, ρ, c, ρ', rp, e, k⟩ := h
  unfold oRep at e
  rw [Option.bind_eq_some_iff] at e
  obtain ⟨⟨x, ρ1⟩, h1, e⟩ := e
  rw [Option.bind_eq_some_iff] at e
  obtain ⟨⟨y, ρ2⟩, h2, e⟩ := e
  refine ⟨R, G, ρ, x, ρ1, rp, h1, fun G1 H1 v1 s1 r1 d1 => ?_⟩
  refine ⟨R, G1, ρ1, y, ρ2, r1, h2, fun G2 H2 v2 s2 r2 d2 => ?_⟩
  cases x <;> try (cases e; done)
  cases y <;> try (cases e; done)
  simp only at e
  split at e
  · rename_i hl
    cases e
    have d1' := Dq_mono s2 d1
    cases d1' with
    | lst h1 a1 =>
      cases d2
      refine ⟨_, _, _, rfl, rfl, r2.subG _ _ h1, by omega, by omega, ?_, fun p hp => k G2 _ p (s1.trans s2) (r2.pushNew hp (ho := .lst _) (a1.rep _))⟩
      rw [a1.length]
      exact size_of (Nat.le_trans (Nat.mul_le_mul hl.2.2 (show Int.toNat _ ≤ 1000 by omega)) (by decide))
  · cases e
/-- list(x), to be owned -/
def oList (as : M (List D)) : M Ow := fun ρ => (as ρ).bind fun p => match p.1 with
  | [.list xs] => some (.lst xs, p.2)
  | [.tuple xs] => some (.lst xs, p.2)
  | _ => none
theorem qo_list {m : M (List D)} (hm : X.mg "list" = none) (ha : QA X [e] m) (hg : Gl X "list" := by rfl) (hv : bootBuiltins "list" = some (.type "list") := by decide +kernel)
    (he : starEach [e] X.env = (false, eval e X.env) :: starEach [] X.env := by rfl) (hpl : (backTo pos (starEach [] X.env)).any (·.1) = false := by rfl) : QO X (.Call (.Name "list" p) [e] [] pos) (oList m) := by
  refine PE.imp (pe_callTy call_list_of hg hm hv ha (by decide) (by decide) he hpl) fun σ H Q h => ?_
  obtain ⟨R, G, ρ, c, ρ', rp, e, k⟩ := h
  unfold oList at e
  rw [Option.bind_eq_some_iff] at e
  obtain ⟨⟨xs, ρ1⟩, h1, e⟩ := e
  refine ⟨R, G, ρ, xs, ρ1, rp, h1, fun G1 H1 v1 s1 r1 d1 => ?_⟩
  simp only at e
  split at e
  · cases e
    obtain ⟨v, rfl, hd⟩ := one_of d1
    cases hd with
    | lst h1 a1 => exact ⟨_, _, rfl, .inl (SqL.of (r1.subG _ _ h1)), fun l hl => k G1 _ l s1 (r1.pushNew hl (ho := .lst _) a1)⟩
  · cases e
    obtain ⟨v, rfl, hd⟩ := one_of d1
    cases hd with
    | tup h1 a1 => exact ⟨_, _, rfl, .inr (SqT_mono r1.subG h1), fun l hl => k G1 _ l s1 (r1.pushNew hl (ho := .lst _) a1)⟩
  · cases e
end

/-! ### zip of two lists, of two tuples; enumerate of a list -/
def zipL (xs ys : List D) : List D := (xs.zip ys).map fun p => .tuple [p.1, p.2]
def zipD : List D → Option (List D)
  | [.list xs, .list ys] => some (zipL xs ys)
  | [.tuple xs, .tuple ys] => some (zipL xs ys)
  | _ => none
theorem zipL_length (xs ys : List D) : (zipL xs ys).length = min xs.length ys.length := by simp [zipL]
theorem zipL_get {xs ys : List D} {i : Nat} {d : D} (h : (zipL xs ys)[i]? = some d) : ∃ x y, xs[i]? = some x ∧ ys[i]? = some y ∧ d = .tuple [x, y] := by
  unfold zipL at h
  rw [List.getElem?_map] at h
  cases q : (xs.zip ys)[i]? with
  | none => rw [q] at h; cases h
  | some p =>
    rw [q] at h
    cases h
    rw [List.getElem?_zip_eq_some] at q
    exact ⟨p.1, p.2, q.1, q.2, rfl⟩
theorem walk_zipL {K : Fr} {G : Hp} {a b : Addr} {xs ys : List D} (ha : Dq K G (.ref a) (.list xs)) (hb : Dq K G (.ref b) (.list ys)) : WalkD K (Itz K a b) G (zipL xs ys) := by
  cases ha with
  | lst h1 a1 =>
    rename_i us
    cases hb with
    | lst h2 a2 =>
      rename_i ws
      have sq1 : ∀ G' H, Same G G' → Same G' H → SqL K H a us := fun G' H s1 s2 => SqL.of (s2 _ _ (s1 _ _ h1))
      have sq2 : ∀ G' H, Same G G' → Same G' H → SqL K H b ws := fun G' H s1 s2 => SqL.of (s2 _ _ (s1 _ _ h2))
      have l1 := a1.length
      have l2 := a2.length
      refine ⟨fun i G' H s1 s2 hi => ?_, fun i G' H s1 s2 hi => ?_, fun i G' H v H' d s1 s2 hd hy => ?_⟩
      · rw [zipL_length] at hi
        exact ⟨us, ws, us[i]'(by omega), ws[i]'(by omega), sq1 G' H s1 s2, sq2 G' H s1 s2, by simp, by simp⟩
      · rw [zipL_length] at hi
        exact ⟨us, ws, sq1 G' H s1 s2, sq2 G' H s1 s2, by omega⟩
      · obtain ⟨T, x, y, rfl, hT, rfl, f1, f2⟩ := hy
        obtain ⟨dx, dy, e1, e2, rfl⟩ := zipL_get hd
        refine ⟨_, Gr.new s2 hT, .tup (SqT.of upd_same) ?_⟩
        have gg := (Gr.new (o := .tup [x, y]) s2 hT).gg
        exact .cons (Dq_mono (s1.trans gg) (a1.idx e1 (f1 us (sq1 G' H s1 s2)))) (.cons (Dq_mono (s1.trans gg) (a2.idx e2 (f2 ws (sq2 G' H s1 s2)))) .nil)
theorem walk_zipT {K : Fr} {G : Hp} {a b : Addr} {xs ys : List D} (ha : Dq K G (.ref a) (.tuple xs)) (hb : Dq K G (.ref b) (.tuple ys)) : WalkD K (RZ.ItzT K a b) G (zipL xs ys) := by
  cases ha with
  | tup h1 a1 =>
    rename_i us
    cases hb with
    | tup h2 a2 =>
      rename_i ws
      have sq1 : ∀ G' H, Same G G' → Same G' H → SqT K H a us := fun G' H s1 s2 => SqT_mono s2 (SqT_mono s1 h1)
      have sq2 : ∀ G' H, Same G G' → Same G' H → SqT K H b ws := fun G' H s1 s2 => SqT_mono s2 (SqT_mono s1 h2)
      have l1 := a1.length
      have l2 := a2.length
      refine ⟨fun i G' H s1 s2 hi => ?_, fun i G' H s1 s2 hi => ?_, fun i G' H v H' d s1 s2 hd hy => ?_⟩
      · rw [zipL_length] at hi
        exact ⟨us, ws, us[i]'(by omega), ws[i]'(by omega), sq1 G' H s1 s2, sq2 G' H s1 s2, by simp, by simp⟩
      · rw [zipL_length] at hi
        exact ⟨us, ws, sq1 G' H s1 s2, sq2 G' H s1 s2, by omega⟩
      · obtain ⟨T, x, y, rfl, hT, rfl, f1, f2⟩ := hy
        obtain ⟨dx, dy, e1, e2, rfl⟩ := zipL_get hd
        refine ⟨_, Gr.new s2 hT, .tup (SqT.of upd_same) ?_⟩
        have gg := (Gr.new (o := .tup [x, y]) s2 hT).gg
        exact .cons (Dq_mono (s1.trans gg) (a1.idx e1 (f1 us (sq1 G' H s1 s2)))) (.cons (Dq_mono (s1.trans gg) (a2.idx e2 (f2 ws (sq2 G' H s1 s2)))) .nil)
section
variable {X : Cx} {e e2 : Expr} {p pos tpos : Pos} {elts : List Expr} {kk : Nat}
theorem qi_zip {m : M (List D)} (hm : X.mg "zip" = none) (ha : QA X [e, e2] m) (hg : Gl X "zip" := by rfl) (hs : starEach [e, e2] X.env = (false, eval e X.env) :: starEach [e2] X.env := by rfl) (hpl : (backTo pos (starEach [e2] X.env)).any (·.1) = false := by rfl) :
    QI X (.Tuple elts kk tpos) (.Call (.Name "zip" p) [e, e2] [] pos) (iApp zipD m) := by
  refine PI.imp (RZ.pi_zipA hg hm ha hs hpl) fun σ H Q h => ?_
  obtain ⟨R, G, ρ, ds, ρ', rp, e, k⟩ := h
  obtain ⟨xs, h1, h2⟩ := iApp_some e
  refine ⟨R, G, ρ, _, _, rp, h1, fun G1 H1 v1 s1 r1 d1 => ?_⟩
  unfold zipD at h2
  split at h2
  · cases h2
    obtain ⟨v, w, rfl, da, db⟩ := two_of d1
    cases id da with
    | lst ha1 _ =>
      cases id db with
      | lst hb1 _ => exact ⟨_, _, _, _, rfl, .inl ⟨SqL.of (r1.subG _ _ ha1), SqL.of (r1.subG _ _ hb1), k G1 H1 _ s1 r1 (walk_zipL da db)⟩⟩
  · cases h2
    obtain ⟨v, w, rfl, da, db⟩ := two_of d1
    cases id da with
    | tup ha1 _ =>
      cases id db with
      | tup hb1 _ => exact ⟨_, _, _, _, rfl, .inr ⟨SqT_mono r1.subG ha1, SqT_mono r1.subG hb1, k G1 H1 _ s1 r1 (walk_zipT da db)⟩⟩
  · cases h2
end
/-! ### a def that is not called (the depth is used up) -/
theorem fnP0 {P : Program} {w : World} {K : Fr} {mg : Str → Option Value} {base : Heap} {CX : CXT} {k : Nat} {f : Addr} {fd : FuncData} {ps : List Str} {n : Nat} {F : List D → Option D} (hF : ∀ ds, F ds = none) (hn : n = ps.length) : FnOk P w K mg base CX k f fd ps (spP K F n) :=
  ⟨fun vs H Q E h => h.1.trans hn, fun A outer s H args us vs Q E _ _ _ _ h => by obtain ⟨_, _, _, _, _, _, e, _⟩ := h; rw [hF] at e; cases e⟩
theorem fnO0 {P : Program} {w : World} {K : Fr} {mg : Str → Option Value} {base : Heap} {CX : CXT} {k : Nat} {f : Addr} {fd : FuncData} {ps : List Str} {n : Nat} {F : List Sl → Option (D × List Sl)} (hF : ∀ ds, F ds = none) (hn : n = ps.length) : FnOk P w K mg base CX k f fd ps (spO K F n) :=
  ⟨fun vs H Q E h => h.1.trans hn, fun A outer s H args us vs Q E _ _ _ _ h => by obtain ⟨_, _, _, _, _, _, _, e, _⟩ := h; rw [hF] at e; cases e⟩
/-- the law: True of every script -/
def spLaw (K : Fr) : Sp := fun vs H Q _ => ∃ (a : Addr) (ns : List Int), vs = [.ref a] ∧ SqL K H a (ns.map V.int) ∧ ns.length ≤ 63 ∧ ∀ H', Q (.bl true) H'
theorem law_of {P : Program} {w : World} {K : Fr} {mg : Str → Option Value} {base : Heap} {CX : CXT} {k : Nat} {f : Addr} {fd : FuncData} {ps : List Str} {F : List Sl → Option (D × List Sl)} (h : FnOk P w K mg base CX k f fd ps (spO K F 1)) (hF : ∀ ns : List Int, ns.length ≤ 63 → ∃ ss, F [.scr ns] = some (.bool true, ss)) : FnOk P w K mg base CX k f fd ps (spLaw K) := by
  refine h.imp fun vs H Q E hs => ?_
  obtain ⟨a, ns, rfl, hl, h63, q⟩ := hs
  obtain ⟨ss, e⟩ := hF ns h63
  refine ⟨rfl, fun _ => none, H, [.scr ns], .bool true, ss, ⟨rfl, fun _ _ z => (by cases z), .refl _, fun _ _ z => (by cases z), fun i s hi => ?_, fun i j c c' p h1 _ _ _ => ?_⟩, e, fun G' H' v _ _ dv => ?_⟩
  · cases i with
    | zero => cases hi; exact ⟨a, rfl, hl⟩
    | succ i => simp at hi
  · cases i with
    | zero => cases h1
    | succ i => simp at h1
  · cases dv; exact q H'
end QL
set_option Elab.async false
set_option linter.all false
set_option maxRecDepth 100000
set_option maxHeartbeats 4000000
namespace QP
open PySem PySem.Spec PyProof.Rows L2 QL
def topS (i : Nat) : Stmt := PySem.Challenge.pw_roomhalls_k24_whole_quarters.main.body.getD i (.Pass ⟨0, 0, 0, 0⟩)
def Has (P : Program) (w : World) (K : QL.Fr) (mg : Str → Option Value) (base : Heap) (name : Str) (k : Nat) (ps : List Str) (sp : Sp) : Prop := ∃ f fd, FnOk P w K mg base CX0 k f fd ps sp ∧ mg name = some (.ref f) ∧ PySem.W.keepIn K (.ref f) = true ∧ Binds K fd ps []
def Def (K : QL.Fr) (mg : Str → Option Value) (name : Str) (st : Stmt) (ps : List Str) : Prop := ∃ f fd, Fun K name name st f fd ∧ mg name = some (.ref f) ∧ Binds K fd ps []
structure Txt (K : QL.Fr) (mg : Str → Option Value) : Prop where
  b_len : mg "len" = none
  b_abs : mg "abs" = none
  b_range : mg "range" = none
  b_zip : mg "zip" = none
  b_enumerate : mg "enumerate" = none
  b_all : mg "all" = none
  b_any : mg "any" = none
  b_isinstance : mg "isinstance" = none
  b_tuple : mg "tuple" = none
  b_list : mg "list" = none
  b_int : mg "int" = none
  b_str : mg "str" = none
  b_bool : mg "bool" = none
  b_min : mg "min" = none
  b_max : mg "max" = none
  b_sum : mg "sum" = none
  b_sorted : mg "sorted" = none
  b_set : mg "set" = none
  g_NOUGHT : GlobD K mg "NOUGHT" (.tuple [(.int 0), (.int 1)])
  g_ONE : GlobD K mg "ONE" (.tuple [(.int 1), (.int 1)])
  g_WORDS : GlobD K mg "WORDS" (.tuple [(.str "side"), (.str "stack")])
  g_DEEP : GlobD K mg "DEEP" (.int 3)
  g_MANY : GlobD K mg "MANY" (.int 8)
section
variable {P : Program} {w : World} {K : QL.Fr} {mg : Str → Option Value} {base : Heap}
def slotI (ρ : Ro) (i : Nat) : Int := match ρ[i]? with
  | some (Sl.dat (PyData.int n)) => n
  | _ => 0
def fu_common (ρ : Ro) : Nat := (slotI ρ 1).natAbs + 1
def fu__law_both (ρ : Ro) : Nat := (slotI ρ 1).natAbs + 1
def fu_joined_from (ρ : Ro) : Nat := 100
def fu__law_order_of (ρ : Ro) : Nat := 100
abbrev s_is_any_whole : Stmt := topS 6
theorem sc_is_any_whole : FnScope ["thing"] ["thing"] (defScope s_is_any_whole) := ⟨rfl, rfl, rfl, by decide +kernel, rfl, by decide +kernel, by decide +kernel⟩
def B_is_any_whole : MS := (sRet (eAnd (eOp1 (isaV "int") (eVar 0)) (eNot (eOp1 (isaV "bool") (eVar 0)))))
def F_is_any_whole : List D → Option D := runF 1 1 B_is_any_whole
theorem w_is_any_whole (T : Txt K mg) (ff : Addr) : ∃ W : List Nat, ∀ (cdv : Value) (A : Around) (outer : List Env) (s : Shared) (H : Hp) (E : XK), Room 0 (A.deeper (envOfC "is_any_whole" (defScope s_is_any_whole) s.heap.objs.size ff cdv)) → QSs (cxOf CX0 P w K mg base ["thing"] "is_any_whole" (defScope s_is_any_whole) ff cdv A outer s H E).nox W (defBody s_is_any_whole) B_is_any_whole :=
  ⟨_, fun cdv A outer s H E hr => (qs_one (qs_ret (qe_and (qe_isa (qe_var 0) T.b_isinstance T.b_int) (qe_one (qe_not (qe_isa (qe_var 0) T.b_isinstance T.b_bool))))))⟩
theorem ok_is_any_whole (T : Txt K mg) (X_is_any_whole : Def K mg "is_any_whole" s_is_any_whole ["thing"]) : Has P w K mg base "is_any_whole" 1 ["thing"] (spP K F_is_any_whole 1) := by
  obtain ⟨ff, fd, FF, gg, bb⟩ := X_is_any_whole
  obtain ⟨W, hw⟩ := w_is_any_whole T ff
  have o : FnOk P w K mg base CX0 1 ff fd ["thing"] (spP K (runF 1 1 B_is_any_whole) 1) := fnP (k := 0) FF sc_is_any_whole hw
  exact ⟨ff, fd, o, gg, FF.kp, bb⟩
abbrev s_common : Stmt := topS 7
theorem sc_common : FnScope ["one", "other"] ["one", "other"] (defScope s_common) := ⟨rfl, rfl, rfl, by decide +kernel, rfl, by decide +kernel, by decide +kernel⟩
def B_common : MS := (sSeq (sWhile fu_common (cV (eOp2 dGt (eVar 1) (eC (.int 0)))) (sPar2 0 1 (xDat (eVar 1) (xDat (eOp2 dMod (eVar 0) (eVar 1)) xNil)))) (sRet (eVar 0)))
def F_common : List D → Option D := runF 2 2 B_common
theorem w_common (T : Txt K mg) (ff : Addr) : ∃ W : List Nat, ∀ (cdv : Value) (A : Around) (outer : List Env) (s : Shared) (H : Hp) (E : XK), Room 0 (A.deeper (envOfC "common" (defScope s_common) s.heap.objs.size ff cdv)) → QSs (cxOf CX0 P w K mg base ["one", "other"] "common" (defScope s_common) ff cdv A outer s H E).nox W (defBody s_common) B_common :=
  ⟨_, fun cdv A outer s H E hr => (qs_cons (qs_while fu_common (qt_cmp op_gt d_gt (qe_var 1) qe_int) (qs_one (qs_par (i := 0) (j := 1) sc_common.nd (qx_dat (qe_var 1) (qx_dat (qe_mod (qe_var 0) (qe_var 1)) qx_nil))))) (qs_one (qs_ret (qe_var 0))))⟩
theorem ok_common (T : Txt K mg) (X_common : Def K mg "common" s_common ["one", "other"]) : Has P w K mg base "common" 1 ["one", "other"] (spP K F_common 2) := by
  obtain ⟨ff, fd, FF, gg, bb⟩ := X_common
  obtain ⟨W, hw⟩ := w_common T ff
  have o : FnOk P w K mg base CX0 1 ff fd ["one", "other"] (spP K (runF 2 2 B_common) 2) := fnP (k := 0) FF sc_common hw
  exact ⟨ff, fd, o, gg, FF.kp, bb⟩
abbrev s_made_of : Stmt := topS 8
theorem sc_made_of : FnScope ["top", "bottom", "both"] ["top", "bottom"] (defScope s_made_of) := ⟨rfl, rfl, rfl, by decide +kernel, rfl, by decide +kernel, by decide +kernel⟩
def B_made_of : MS := (sSeq (sIf (cV (eOp2 dLt (eVar 1) (eC (.int 0)))) (sPar2 0 1 (xDat (eOp2 dSub (eC (.int 0)) (eVar 0)) (xDat (eOp2 dSub (eC (.int 0)) (eVar 1)) xNil))) sNil) (sSeq (sAsg (eApp F_common (aCons (eApp dAbs (aCons (eVar 0) aNil)) (aCons (eVar 1) aNil))) (gSet 2)) (sRet (eApp mkTup (aCons (eOp2 dDiv (eVar 0) (eVar 2)) (aCons (eOp2 dDiv (eVar 1) (eVar 2)) aNil))))))
def F_made_of : List D → Option D := runF 2 3 B_made_of
theorem w_made_of (T : Txt K mg) (ff : Addr) {f_common : Addr} {fd_common : FuncData} (O_common : FnOk P w K mg base CX0 1 f_common fd_common ["one", "other"] (spP K F_common 2)) (g_common : mg "common" = some (.ref f_common)) (k_common : PySem.W.keepIn K (.ref f_common) = true) (b_common : Binds K fd_common ["one", "other"] []) : ∃ W : List Nat, ∀ (cdv : Value) (A : Around) (outer : List Env) (s : Shared) (H : Hp) (E : XK), Room 1 (A.deeper (envOfC "made_of" (defScope s_made_of) s.heap.objs.size ff cdv)) → QSs (cxOf CX0 P w K mg base ["top", "bottom", "both"] "made_of" (defScope s_made_of) ff cdv A outer s H E).nox W (defBody s_made_of) B_made_of :=
  ⟨_, fun cdv A outer s H E hr => (qs_cons (qs_if (qt_cmp op_lt d_lt (qe_var 1) qe_int) (qs_one (qs_par (i := 0) (j := 1) sc_made_of.nd (qx_dat (qe_sub qe_int (qe_var 0)) (qx_dat (qe_sub qe_int (qe_var 1)) qx_nil)))) qs_nil) (qs_cons (qs_set 2 sc_made_of.nd (qe_call O_common (hr.mono (by decide)) g_common k_common b_common (qa_cons (qe_callB call_abs d_abs T.b_abs (qa_cons (qe_var 0) qa_nil)) (qa_cons (qe_var 1) qa_nil)))) (qs_one (qs_ret (qe_tup (qa_cons (qe_div (qe_var 0) (qe_var 2)) (qa_cons (qe_div (qe_var 1) (qe_var 2)) qa_nil)))))))⟩
theorem ok_made_of (T : Txt K mg) (X_made_of : Def K mg "made_of" s_made_of ["top", "bottom"]) (H_common : Has P w K mg base "common" 1 ["one", "other"] (spP K F_common 2)) : Has P w K mg base "made_of" 2 ["top", "bottom"] (spP K F_made_of 2) := by
  obtain ⟨f_common, fd_common, O_common, g_common, k_common, b_common⟩ := H_common
  obtain ⟨ff, fd, FF, gg, bb⟩ := X_made_of
  obtain ⟨W, hw⟩ := w_made_of T ff O_common g_common k_common b_common
  have o : FnOk P w K mg base CX0 2 ff fd ["top", "bottom"] (spP K (runF 2 3 B_made_of) 2) := fnP (k := 1) FF sc_made_of hw
  exact ⟨ff, fd, o, gg, FF.kp, bb⟩
abbrev s_is_fraction : Stmt := topS 9
theorem sc_is_fraction : FnScope ["thing", "one"] ["thing"] (defScope s_is_fraction) := ⟨rfl, rfl, rfl, by decide +kernel, rfl, by decide +kernel, by decide +kernel⟩
def B_is_fraction : MS := (sSeq (sIf (cOr (cNot (cV (eOp1 (isaV "tuple") (eVar 0)))) (cOr (cV (eOp2 dNe (eApp dLen (aCons (eVar 0) aNil)) (eC (.int 2)))) (cNot (cV (eApp dAll (aCons (eLc [1] (iSeq (eVar 0)) (gSet 1) cTrue (eApp F_is_any_whole (aCons (eVar 1) aNil))) aNil)))))) (sRet (eC (.bool false))) sNil) (sRet (eAnd (eOp2 dGt (eOp2 dIx (eVar 0) (eC (.int 1))) (eC (.int 0))) (eOp2 dEq (eApp F_common (aCons (eApp dAbs (aCons (eOp2 dIx (eVar 0) (eC (.int 0))) aNil)) (aCons (eOp2 dIx (eVar 0) (eC (.int 1))) aNil))) (eC (.int 1))))))
def F_is_fraction : List D → Option D := runF 1 2 B_is_fraction
theorem w_is_fraction (T : Txt K mg) (ff : Addr) {f_common : Addr} {fd_common : FuncData} (O_common : FnOk P w K mg base CX0 1 f_common fd_common ["one", "other"] (spP K F_common 2)) (g_common : mg "common" = some (.ref f_common)) (k_common : PySem.W.keepIn K (.ref f_common) = true) (b_common : Binds K fd_common ["one", "other"] []) {f_is_any_whole : Addr} {fd_is_any_whole : FuncData} (O_is_any_whole : FnOk P w K mg base CX0 1 f_is_any_whole fd_is_any_whole ["thing"] (spP K F_is_any_whole 1)) (g_is_any_whole : mg "is_any_whole" = some (.ref f_is_any_whole)) (k_is_any_whole : PySem.W.keepIn K (.ref f_is_any_whole) = true) (b_is_any_whole : Binds K fd_is_any_whole ["thing"] []) : ∃ W : List Nat, ∀ (cdv : Value) (A : Around) (outer : List Env) (s : Shared) (H : Hp) (E : XK), Room 1 (A.deeper (envOfC "is_fraction" (defScope s_is_fraction) s.heap.objs.size ff cdv)) → QSs (cxOf CX0 P w K mg base ["thing", "one"] "is_fraction" (defScope s_is_fraction) ff cdv A outer s H E).nox W (defBody s_is_fraction) B_is_fraction :=
  ⟨_, fun cdv A outer s H E hr => (qs_cons (qs_if (qw_pt (qw_or (qt_not (qt_val (qe_isa (qe_var 0) T.b_isinstance T.b_tuple))) (qw_or (qt_cmp (op_neD hr.units) d_ne (qe_callB call_len_seq d_len T.b_len (qa_cons (qe_var 0) qa_nil)) qe_int) (qw_or1 (qt_not (qt_val (qe_callB (cr_all rfl) d_all T.b_all (qa_cons (qe_lc [("one", 1)] sc_is_fraction.nd (qi_seq (qe_var 0)) (blkOk_by (N := ["thing", "one"]) (sc := (defScope s_is_fraction)) (by decide +kernel)) (fun _ _ _ _ _ => (qg_name 1 sc_is_fraction.nd)) (fun _ _ _ _ _ => qts_nil) (fun _ _ _ _ _ => (qe_call O_is_any_whole (hr.mono (by decide)) g_is_any_whole k_is_any_whole b_is_any_whole (qa_cons (qe_var 1) qa_nil)))) qa_nil)))))))) (qs_one (qs_ret qe_bl)) qs_nil) (qs_one (qs_ret (qe_and (qe_cmp op_gt d_gt (qe_ix (qe_var 0) qe_int) qe_int) (qe_one (qe_cmp (op_eqD hr.units) d_eq (qe_call O_common (hr.mono (by decide)) g_common k_common b_common (qa_cons (qe_callB call_abs d_abs T.b_abs (qa_cons (qe_ix (qe_var 0) qe_int) qa_nil)) (qa_cons (qe_ix (qe_var 0) qe_int) qa_nil))) qe_int))))))⟩
theorem ok_is_fraction (T : Txt K mg) (X_is_fraction : Def K mg "is_fraction" s_is_fraction ["thing"]) (H_common : Has P w K mg base "common" 1 ["one", "other"] (spP K F_common 2)) (H_is_any_whole : Has P w K mg base "is_any_whole" 1 ["thing"] (spP K F_is_any_whole 1)) : Has P w K mg base "is_fraction" 2 ["thing"] (spP K F_is_fraction 1) := by
  obtain ⟨f_common, fd_common, O_common, g_common, k_common, b_common⟩ := H_common
  obtain ⟨f_is_any_whole, fd_is_any_whole, O_is_any_whole, g_is_any_whole, k_is_any_whole, b_is_any_whole⟩ := H_is_any_whole
  obtain ⟨ff, fd, FF, gg, bb⟩ := X_is_fraction
  obtain ⟨W, hw⟩ := w_is_fraction T ff O_common g_common k_common b_common O_is_any_whole g_is_any_whole k_is_any_whole b_is_any_whole
  have o : FnOk P w K mg base CX0 2 ff fd ["thing"] (spP K (runF 1 2 B_is_fraction) 1) := fnP (k := 1) FF sc_is_fraction hw
  exact ⟨ff, fd, o, gg, FF.kp, bb⟩
abbrev s_plus : Stmt := topS 10
theorem sc_plus : FnScope ["one", "other"] ["one", "other"] (defScope s_plus) := ⟨rfl, rfl, rfl, by decide +kernel, rfl, by decide +kernel, by decide +kernel⟩
def B_plus : MS := (sRet (eApp F_made_of (aCons (eOp2 dAdd (eOp2 dMul (eOp2 dIx (eVar 0) (eC (.int 0))) (eOp2 dIx (eVar 1) (eC (.int 1)))) (eOp2 dMul (eOp2 dIx (eVar 1) (eC (.int 0))) (eOp2 dIx (eVar 0) (eC (.int 1))))) (aCons (eOp2 dMul (eOp2 dIx (eVar 0) (eC (.int 1))) (eOp2 dIx (eVar 1) (eC (.int 1)))) aNil))))
def F_plus : List D → Option D := runF 2 2 B_plus
theorem w_plus (T : Txt K mg) (ff : Addr) {f_made_of : Addr} {fd_made_of : FuncData} (O_made_of : FnOk P w K mg base CX0 2 f_made_of fd_made_of ["top", "bottom"] (spP K F_made_of 2)) (g_made_of : mg "made_of" = some (.ref f_made_of)) (k_made_of : PySem.W.keepIn K (.ref f_made_of) = true) (b_made_of : Binds K fd_made_of ["top", "bottom"] []) : ∃ W : List Nat, ∀ (cdv : Value) (A : Around) (outer : List Env) (s : Shared) (H : Hp) (E : XK), Room 2 (A.deeper (envOfC "plus" (defScope s_plus) s.heap.objs.size ff cdv)) → QSs (cxOf CX0 P w K mg base ["one", "other"] "plus" (defScope s_plus) ff cdv A outer s H E).nox W (defBody s_plus) B_plus :=
  ⟨_, fun cdv A outer s H E hr => (qs_one (qs_ret (qe_call O_made_of (hr.mono (by decide)) g_made_of k_made_of b_made_of (qa_cons (qe_add (qe_mul (qe_ix (qe_var 0) qe_int) (qe_ix (qe_var 1) qe_int)) (qe_mul (qe_ix (qe_var 1) qe_int) (qe_ix (qe_var 0) qe_int))) (qa_cons (qe_mul (qe_ix (qe_var 0) qe_int) (qe_ix (qe_var 1) qe_int)) qa_nil)))))⟩
theorem ok_plus (T : Txt K mg) (X_plus : Def K mg "plus" s_plus ["one", "other"]) (H_made_of : Has P w K mg base "made_of" 2 ["top", "bottom"] (spP K F_made_of 2)) : Has P w K mg base "plus" 3 ["one", "other"] (spP K F_plus 2) := by
  obtain ⟨f_made_of, fd_made_of, O_made_of, g_made_of, k_made_of, b_made_of⟩ := H_made_of
  obtain ⟨ff, fd, FF, gg, bb⟩ := X_plus
  obtain ⟨W, hw⟩ := w_plus T ff O_made_of g_made_of k_made_of b_made_of
  have o : FnOk P w K mg base CX0 3 ff fd ["one", "other"] (spP K (runF 2 2 B_plus) 2) := fnP (k := 2) FF sc_plus hw
  exact ⟨ff, fd, o, gg, FF.kp, bb⟩
abbrev s_times : Stmt := topS 11
theorem sc_times : FnScope ["one", "other"] ["one", "other"] (defScope s_times) := ⟨rfl, rfl, rfl, by decide +kernel, rfl, by decide +kernel, by decide +kernel⟩
def B_times : MS := (sRet (eApp F_made_of (aCons (eOp2 dMul (eOp2 dIx (eVar 0) (eC (.int 0))) (eOp2 dIx (eVar 1) (eC (.int 0)))) (aCons (eOp2 dMul (eOp2 dIx (eVar 0) (eC (.int 1))) (eOp2 dIx (eVar 1) (eC (.int 1)))) aNil))))
def F_times : List D → Option D := runF 2 2 B_times
theorem w_times (T : Txt K mg) (ff : Addr) {f_made_of : Addr} {fd_made_of : FuncData} (O_made_of : FnOk P w K mg base CX0 2 f_made_of fd_made_of ["top", "bottom"] (spP K F_made_of 2)) (g_made_of : mg "made_of" = some (.ref f_made_of)) (k_made_of : PySem.W.keepIn K (.ref f_made_of) = true) (b_made_of : Binds K fd_made_of ["top", "bottom"] []) : ∃ W : List Nat, ∀ (cdv : Value) (A : Around) (outer : List Env) (s : Shared) (H : Hp) (E : XK), Room 2 (A.deeper (envOfC "times" (defScope s_times) s.heap.objs.size ff cdv)) → QSs (cxOf CX0 P w K mg base ["one", "other"] "times" (defScope s_times) ff cdv A outer s H E).nox W (defBody s_times) B_times :=
  ⟨_, fun cdv A outer s H E hr => (qs_one (qs_ret (qe_call O_made_of (hr.mono (by decide)) g_made_of k_made_of b_made_of (qa_cons (qe_mul (qe_ix (qe_var 0) qe_int) (qe_ix (qe_var 1) qe_int)) (qa_cons (qe_mul (qe_ix (qe_var 0) qe_int) (qe_ix (qe_var 1) qe_int)) qa_nil)))))⟩
theorem ok_times (T : Txt K mg) (X_times : Def K mg "times" s_times ["one", "other"]) (H_made_of : Has P w K mg base "made_of" 2 ["top", "bottom"] (spP K F_made_of 2)) : Has P w K mg base "times" 3 ["one", "other"] (spP K F_times 2) := by
  obtain ⟨f_made_of, fd_made_of, O_made_of, g_made_of, k_made_of, b_made_of⟩ := H_made_of
  obtain ⟨ff, fd, FF, gg, bb⟩ := X_times
  obtain ⟨W, hw⟩ := w_times T ff O_made_of g_made_of k_made_of b_made_of
  have o : FnOk P w K mg base CX0 3 ff fd ["one", "other"] (spP K (runF 2 2 B_times) 2) := fnP (k := 2) FF sc_times hw
  exact ⟨ff, fd, o, gg, FF.kp, bb⟩
abbrev s_over : Stmt := topS 12
theorem sc_over : FnScope ["one", "other"] ["one", "other"] (defScope s_over) := ⟨rfl, rfl, rfl, by decide +kernel, rfl, by decide +kernel, by decide +kernel⟩
def B_over : MS := (sRet (eApp F_made_of (aCons (eOp2 dMul (eOp2 dIx (eVar 0) (eC (.int 0))) (eOp2 dIx (eVar 1) (eC (.int 1)))) (aCons (eOp2 dMul (eOp2 dIx (eVar 0) (eC (.int 1))) (eOp2 dIx (eVar 1) (eC (.int 0)))) aNil))))
def F_over : List D → Option D := runF 2 2 B_over
theorem w_over (T : Txt K mg) (ff : Addr) {f_made_of : Addr} {fd_made_of : FuncData} (O_made_of : FnOk P w K mg base CX0 2 f_made_of fd_made_of ["top", "bottom"] (spP K F_made_of 2)) (g_made_of : mg "made_of" = some (.ref f_made_of)) (k_made_of : PySem.W.keepIn K (.ref f_made_of) = true) (b_made_of : Binds K fd_made_of ["top", "bottom"] []) : ∃ W : List Nat, ∀ (cdv : Value) (A : Around) (outer : List Env) (s : Shared) (H : Hp) (E : XK), Room 2 (A.deeper (envOfC "over" (defScope s_over) s.heap.objs.size ff cdv)) → QSs (cxOf CX0 P w K mg base ["one", "other"] "over" (defScope s_over) ff cdv A outer s H E).nox W (defBody s_over) B_over :=
  ⟨_, fun cdv A outer s H E hr => (qs_one (qs_ret (qe_call O_made_of (hr.mono (by decide)) g_made_of k_made_of b_made_of (qa_cons (qe_mul (qe_ix (qe_var 0) qe_int) (qe_ix (qe_var 1) qe_int)) (qa_cons (qe_mul (qe_ix (qe_var 0) qe_int) (qe_ix (qe_var 1) qe_int)) qa_nil)))))⟩
theorem ok_over (T : Txt K mg) (X_over : Def K mg "over" s_over ["one", "other"]) (H_made_of : Has P w K mg base "made_of" 2 ["top", "bottom"] (spP K F_made_of 2)) : Has P w K mg base "over" 3 ["one", "other"] (spP K F_over 2) := by
  obtain ⟨f_made_of, fd_made_of, O_made_of, g_made_of, k_made_of, b_made_of⟩ := H_made_of
  obtain ⟨ff, fd, FF, gg, bb⟩ := X_over
  obtain ⟨W, hw⟩ := w_over T ff O_made_of g_made_of k_made_of b_made_of
  have o : FnOk P w K mg base CX0 3 ff fd ["one", "other"] (spP K (runF 2 2 B_over) 2) := fnP (k := 2) FF sc_over hw
  exact ⟨ff, fd, o, gg, FF.kp, bb⟩
abbrev s_total : Stmt := topS 13
theorem sc_total : FnScope ["some", "made", "one"] ["some"] (defScope s_total) := ⟨rfl, rfl, rfl, by decide +kernel, rfl, by decide +kernel, by decide +kernel⟩
def B_total : MS := (sSeq (sAsg (eC (.tuple [(.int 0), (.int 1)])) (gSet 1)) (sSeq (sFor (iSeq (eVar 0)) (gSet 2) (sAsg (eApp F_plus (aCons (eVar 1) (aCons (eVar 2) aNil))) (gSet 1))) (sRet (eVar 1))))
def F_total : List D → Option D := runF 1 3 B_total
theorem w_total (T : Txt K mg) (ff : Addr) {f_plus : Addr} {fd_plus : FuncData} (O_plus : FnOk P w K mg base CX0 3 f_plus fd_plus ["one", "other"] (spP K F_plus 2)) (g_plus : mg "plus" = some (.ref f_plus)) (k_plus : PySem.W.keepIn K (.ref f_plus) = true) (b_plus : Binds K fd_plus ["one", "other"] []) : ∃ W : List Nat, ∀ (cdv : Value) (A : Around) (outer : List Env) (s : Shared) (H : Hp) (E : XK), Room 3 (A.deeper (envOfC "total" (defScope s_total) s.heap.objs.size ff cdv)) → QSs (cxOf CX0 P w K mg base ["some", "made", "one"] "total" (defScope s_total) ff cdv A outer s H E).nox W (defBody s_total) B_total :=
  ⟨_, fun cdv A outer s H E hr => (qs_cons (qs_set 1 sc_total.nd (qe_glob T.g_NOUGHT)) (qs_cons (qs_for (qi_seq (qe_var 0)) (qg_name 2 sc_total.nd) (qs_one (qs_set 1 sc_total.nd (qe_call O_plus (hr.mono (by decide)) g_plus k_plus b_plus (qa_cons (qe_var 1) (qa_cons (qe_var 2) qa_nil)))))) (qs_one (qs_ret (qe_var 1)))))⟩
theorem ok_total (T : Txt K mg) (X_total : Def K mg "total" s_total ["some"]) (H_plus : Has P w K mg base "plus" 3 ["one", "other"] (spP K F_plus 2)) : Has P w K mg base "total" 4 ["some"] (spP K F_total 1) := by
  obtain ⟨f_plus, fd_plus, O_plus, g_plus, k_plus, b_plus⟩ := H_plus
  obtain ⟨ff, fd, FF, gg, bb⟩ := X_total
  obtain ⟨W, hw⟩ := w_total T ff O_plus g_plus k_plus b_plus
  have o : FnOk P w K mg base CX0 4 ff fd ["some"] (spP K (runF 1 3 B_total) 1) := fnP (k := 3) FF sc_total hw
  exact ⟨ff, fd, o, gg, FF.kp, bb⟩
abbrev s_is_proportion : Stmt := topS 15
theorem sc_is_proportion : FnScope ["thing"] ["thing"] (defScope s_is_proportion) := ⟨rfl, rfl, rfl, by decide +kernel, rfl, by decide +kernel, by decide +kernel⟩
def B_is_proportion : MS := (sRet (eAnd (eApp F_is_fraction (aCons (eVar 0) aNil)) (eOp2 dGt (eOp2 dIx (eVar 0) (eC (.int 0))) (eC (.int 0)))))
def F_is_proportion : List D → Option D := runF 1 1 B_is_proportion
theorem w_is_proportion (T : Txt K mg) (ff : Addr) {f_is_fraction : Addr} {fd_is_fraction : FuncData} (O_is_fraction : FnOk P w K mg base CX0 2 f_is_fraction fd_is_fraction ["thing"] (spP K F_is_fraction 1)) (g_is_fraction : mg "is_fraction" = some (.ref f_is_fraction)) (k_is_fraction : PySem.W.keepIn K (.ref f_is_fraction) = true) (b_is_fraction : Binds K fd_is_fraction ["thing"] []) : ∃ W : List Nat, ∀ (cdv : Value) (A : Around) (outer : List Env) (s : Shared) (H : Hp) (E : XK), Room 2 (A.deeper (envOfC "is_proportion" (defScope s_is_proportion) s.heap.objs.size ff cdv)) → QSs (cxOf CX0 P w K mg base ["thing"] "is_proportion" (defScope s_is_proportion) ff cdv A outer s H E).nox W (defBody s_is_proportion) B_is_proportion :=
  ⟨_, fun cdv A outer s H E hr => (qs_one (qs_ret (qe_and (qe_call O_is_fraction (hr.mono (by decide)) g_is_fraction k_is_fraction b_is_fraction (qa_cons (qe_var 0) qa_nil)) (qe_one (qe_cmp op_gt d_gt (qe_ix (qe_var 0) qe_int) qe_int)))))⟩
theorem ok_is_proportion (T : Txt K mg) (X_is_proportion : Def K mg "is_proportion" s_is_proportion ["thing"]) (H_is_fraction : Has P w K mg base "is_fraction" 2 ["thing"] (spP K F_is_fraction 1)) : Has P w K mg base "is_proportion" 3 ["thing"] (spP K F_is_proportion 1) := by
  obtain ⟨f_is_fraction, fd_is_fraction, O_is_fraction, g_is_fraction, k_is_fraction, b_is_fraction⟩ := H_is_fraction
  obtain ⟨ff, fd, FF, gg, bb⟩ := X_is_proportion
  obtain ⟨W, hw⟩ := w_is_proportion T ff O_is_fraction g_is_fraction k_is_fraction b_is_fraction
  have o : FnOk P w K mg base CX0 3 ff fd ["thing"] (spP K (runF 1 1 B_is_proportion) 1) := fnP (k := 2) FF sc_is_proportion hw
  exact ⟨ff, fd, o, gg, FF.kp, bb⟩
abbrev s_proportions_in : Stmt := topS 20
theorem sc_proportions_in : FnScope ["thing", "left", "made", "part", "own"] ["thing", "left"] (defScope s_proportions_in) := ⟨rfl, rfl, rfl, by decide +kernel, rfl, by decide +kernel, by decide +kernel⟩
def B_proportions_in (F_proportions_in : List D → Option D) : MS := (sSeq (sIf (cV (eApp F_is_proportion (aCons (eVar 0) aNil))) (sRet (eApp mkLst (aCons (eVar 0) aNil))) sNil) (sSeq (sIf (cOr (cNot (cV (eOp1 (isaV "tuple") (eVar 0)))) (cOr (cV (eOp2 dNe (eApp dLen (aCons (eVar 0) aNil)) (eC (.int 2)))) (cV (eOp2 dEq (eVar 1) (eC (.int 0)))))) (sRet (eC .none)) sNil) (sSeq (sIf (cOr (cNot (cV (eOp1 (isaV "str") (eOp2 dIx (eVar 0) (eC (.int 0)))))) (cV (eOp2 dNotIn (eOp2 dIx (eVar 0) (eC (.int 0))) (eC (.tuple [(.str "side"), (.str "stack")]))))) (sRet (eC .none)) sNil) (sSeq (sIf (cOr (cNot (cV (eOp1 (isaV "tuple") (eOp2 dIx (eVar 0) (eC (.int 1)))))) (cNot (cV (eChain dLe dLe (eC (.int 2)) (eApp dLen (aCons (eOp2 dIx (eVar 0) (eC (.int 1))) aNil)) (eC (.int 4)))))) (sRet (eC .none)) sNil) (sSeq (sOwn 2 (oLst aNil)) (sSeq (sFor (iSeq (eOp2 dIx (eVar 0) (eC (.int 1)))) (gSet 3) (sSeq (sAsg (eApp F_proportions_in (aCons (eVar 3) (aCons (eOp2 dSub (eVar 1) (eC (.int 1))) aNil))) (gSet 4)) (sSeq (sIf (cV (eOp2 dIs (eVar 4) (eC .none))) (sRet (eC .none)) sNil) (sDrop (eExtend 2 (eVar 4)))))) (sRet (eVar 2))))))))
def F_proportions_in : Nat → List D → Option D
  | 0 => fun _ => none
  | n + 1 => runF 2 5 (B_proportions_in (F_proportions_in n))
theorem F_proportions_in_len : ∀ n ds r, F_proportions_in n ds = some r → ds.length = 2
  | 0, _, _, h => nomatch h
  | _ + 1, ds, r, h => runF_len ds r h
theorem w_proportions_in (T : Txt K mg) (ff : Addr) {f_is_proportion : Addr} {fd_is_proportion : FuncData} (O_is_proportion : FnOk P w K mg base CX0 3 f_is_proportion fd_is_proportion ["thing"] (spP K F_is_proportion 1)) (g_is_proportion : mg "is_proportion" = some (.ref f_is_proportion)) (k_is_proportion : PySem.W.keepIn K (.ref f_is_proportion) = true) (b_is_proportion : Binds K fd_is_proportion ["thing"] []) (n : Nat) (G : List D → Option D) (hG : ∀ ds r, G ds = some r → ds.length = 2) {fd : FuncData} (O_proportions_in : FnOk P w K mg base CX0 (n + 3) ff fd ["thing", "left"] (spP K G 2)) (g_proportions_in : mg "proportions_in" = some (.ref ff)) (k_proportions_in : PySem.W.keepIn K (.ref ff) = true) (b_proportions_in : Binds K fd ["thing", "left"] []) : ∃ W : List Nat, ∀ (cdv : Value) (A : Around) (outer : List Env) (s : Shared) (H : Hp) (E : XK), Room (n + 3) (A.deeper (envOfC "proportions_in" (defScope s_proportions_in) s.heap.objs.size ff cdv)) → QSs (cxOf CX0 P w K mg base ["thing", "left", "made", "part", "own"] "proportions_in" (defScope s_proportions_in) ff cdv A outer s H E).nox W (defBody s_proportions_in) (B_proportions_in G) :=
  ⟨_, fun cdv A outer s H E hr => (qs_cons (qs_if (qt_val (qe_call O_is_proportion (hr.mono (by omega)) g_is_proportion k_is_proportion b_is_proportion (qa_cons (qe_var 0) qa_nil))) (qs_one (qs_ret (qe_lst (qa_cons (qe_var 0) qa_nil)))) qs_nil) (qs_cons (qs_if (qw_pt (qw_or (qt_not (qt_val (qe_isa (qe_var 0) T.b_isinstance T.b_tuple))) (qw_or (qt_cmp (op_neD hr.units) d_ne (qe_callB call_len_seq d_len T.b_len (qa_cons (qe_var 0) qa_nil)) qe_int) (qw_or1 (qt_cmp (op_eqD hr.units) d_eq (qe_var 1) qe_int))))) (qs_one (qs_ret qe_non)) qs_nil) (qs_cons (qs_if (qw_pt (qw_or (qt_not (qt_val (qe_isa (qe_ix (qe_var 0) qe_int) T.b_isinstance T.b_str))) (qw_or1 (qt_cmp op_notIn_seq d_notIn (qe_ix (qe_var 0) qe_int) (qe_glob T.g_WORDS))))) (qs_one (qs_ret qe_non)) qs_nil) (qs_cons (qs_if (qw_pt (qw_or (qt_not (qt_val (qe_isa (qe_ix (qe_var 0) qe_int) T.b_isinstance T.b_tuple))) (qw_or1 (qt_not (qt_chain op_le op_le d_le d_le qe_int (qe_callB call_len_seq d_len T.b_len (qa_cons (qe_ix (qe_var 0) qe_int) qa_nil)) qe_int))))) (qs_one (qs_ret qe_non)) qs_nil) (qs_cons (qs_own 2 sc_proportions_in.nd (qo_lst qa_nil)) (qs_cons (qs_for (qi_seq (qe_ix (qe_var 0) qe_int)) (qg_name 3 sc_proportions_in.nd) (qs_cons (qs_set 4 sc_proportions_in.nd (qe_call O_proportions_in hr g_proportions_in k_proportions_in b_proportions_in (qa_cons (qe_var 3) (qa_cons (qe_sub (qe_var 1) qe_int) qa_nil)) (hF := hG))) (qs_cons (qs_if (qt_cmp op_isA d_is (qe_var 4) qe_non) (qs_one (qs_ret qe_non)) qs_nil) (qs_one (qs_expr (qe_extend 2 (qe_var 4))))))) (qs_one (qs_ret (qe_var 2)))))))))⟩
theorem ok_proportions_in (T : Txt K mg) (X_proportions_in : Def K mg "proportions_in" s_proportions_in ["thing", "left"]) (H_is_proportion : Has P w K mg base "is_proportion" 3 ["thing"] (spP K F_is_proportion 1)) (n : Nat) : Has P w K mg base "proportions_in" (n + 3) ["thing", "left"] (spP K (F_proportions_in n) 2) := by
  obtain ⟨f_is_proportion, fd_is_proportion, O_is_proportion, g_is_proportion, k_is_proportion, b_is_proportion⟩ := H_is_proportion
  obtain ⟨ff, fd, FF, gg, bb⟩ := X_proportions_in
  refine ⟨ff, fd, ?_, gg, FF.kp, bb⟩
  induction n with
  | zero => exact fnP0 (fun _ => rfl) rfl
  | succ n ih =>
    obtain ⟨W, hw⟩ := w_proportions_in T ff O_is_proportion g_is_proportion k_is_proportion b_is_proportion n (F_proportions_in n) (F_proportions_in_len n) ih gg FF.kp bb
    have o : FnOk P w K mg base CX0 (n + 3 + 1) ff fd ["thing", "left"] (spP K (runF 2 5 (B_proportions_in (F_proportions_in n))) 2) := fnP (k := n + 3) FF sc_proportions_in hw
    have e : n + 1 + 3 = n + 3 + 1 := by omega
    rw [e]
    exact o
abbrev s_good_nest : Stmt := topS 21
theorem sc_good_nest : FnScope ["thing", "found"] ["thing"] (defScope s_good_nest) := ⟨rfl, rfl, rfl, by decide +kernel, rfl, by decide +kernel, by decide +kernel⟩
def B_good_nest : MS := (sSeq (sAsg (eApp (F_proportions_in 4) (aCons (eVar 0) (aCons (eC (.int 3)) aNil))) (gSet 1)) (sRet (eAnd (eOp2 dIsNot (eVar 1) (eC .none)) (eOp2 dLe (eApp dLen (aCons (eVar 1) aNil)) (eC (.int 8))))))
def F_good_nest : List D → Option D := runF 1 2 B_good_nest
theorem w_good_nest (T : Txt K mg) (ff : Addr) {f_proportions_in : Addr} {fd_proportions_in : FuncData} (O_proportions_in : FnOk P w K mg base CX0 7 f_proportions_in fd_proportions_in ["thing", "left"] (spP K (F_proportions_in 4) 2)) (g_proportions_in : mg "proportions_in" = some (.ref f_proportions_in)) (k_proportions_in : PySem.W.keepIn K (.ref f_proportions_in) = true) (b_proportions_in : Binds K fd_proportions_in ["thing", "left"] []) : ∃ W : List Nat, ∀ (cdv : Value) (A : Around) (outer : List Env) (s : Shared) (H : Hp) (E : XK), Room 7 (A.deeper (envOfC "good_nest" (defScope s_good_nest) s.heap.objs.size ff cdv)) → QSs (cxOf CX0 P w K mg base ["thing", "found"] "good_nest" (defScope s_good_nest) ff cdv A outer s H E).nox W (defBody s_good_nest) B_good_nest :=
  ⟨_, fun cdv A outer s H E hr => (qs_cons (qs_set 1 sc_good_nest.nd (qe_call O_proportions_in (hr.mono (by decide)) g_proportions_in k_proportions_in b_proportions_in (qa_cons (qe_var 0) (qa_cons (qe_glob T.g_DEEP) qa_nil)) (hF := F_proportions_in_len _))) (qs_one (qs_ret (qe_and (qe_cmp op_isNotA d_isNot (qe_var 1) qe_non) (qe_one (qe_cmp op_le d_le (qe_callB call_len_seq d_len T.b_len (qa_cons (qe_var 1) qa_nil)) (qe_glob T.g_MANY)))))))⟩
theorem ok_good_nest (T : Txt K mg) (X_good_nest : Def K mg "good_nest" s_good_nest ["thing"]) (H_proportions_in : Has P w K mg base "proportions_in" 7 ["thing", "left"] (spP K (F_proportions_in 4) 2)) : Has P w K mg base "good_nest" 8 ["thing"] (spP K F_good_nest 1) := by
  obtain ⟨f_proportions_in, fd_proportions_in, O_proportions_in, g_proportions_in, k_proportions_in, b_proportions_in⟩ := H_proportions_in
  obtain ⟨ff, fd, FF, gg, bb⟩ := X_good_nest
  obtain ⟨W, hw⟩ := w_good_nest T ff O_proportions_in g_proportions_in k_proportions_in b_proportions_in
  have o : FnOk P w K mg base CX0 8 ff fd ["thing"] (spP K (runF 1 2 B_good_nest) 1) := fnP (k := 7) FF sc_good_nest hw
  exact ⟨ff, fd, o, gg, FF.kp, bb⟩
abbrev s_is_nest : Stmt := topS 22
theorem sc_is_nest : FnScope ["thing"] ["thing"] (defScope s_is_nest) := ⟨rfl, rfl, rfl, by decide +kernel, rfl, by decide +kernel, by decide +kernel⟩
def B_is_nest : MS := (sRet (eApp F_good_nest (aCons (eVar 0) aNil)))
def F_is_nest : List D → Option D := runF 1 1 B_is_nest
theorem w_is_nest (T : Txt K mg) (ff : Addr) {f_good_nest : Addr} {fd_good_nest : FuncData} (O_good_nest : FnOk P w K mg base CX0 8 f_good_nest fd_good_nest ["thing"] (spP K F_good_nest 1)) (g_good_nest : mg "good_nest" = some (.ref f_good_nest)) (k_good_nest : PySem.W.keepIn K (.ref f_good_nest) = true) (b_good_nest : Binds K fd_good_nest ["thing"] []) : ∃ W : List Nat, ∀ (cdv : Value) (A : Around) (outer : List Env) (s : Shared) (H : Hp) (E : XK), Room 8 (A.deeper (envOfC "is_nest" (defScope s_is_nest) s.heap.objs.size ff cdv)) → QSs (cxOf CX0 P w K mg base ["thing"] "is_nest" (defScope s_is_nest) ff cdv A outer s H E).nox W (defBody s_is_nest) B_is_nest :=
  ⟨_, fun cdv A outer s H E hr => (qs_one (qs_ret (qe_call O_good_nest (hr.mono (by decide)) g_good_nest k_good_nest b_good_nest (qa_cons (qe_var 0) qa_nil))))⟩
theorem ok_is_nest (T : Txt K mg) (X_is_nest : Def K mg "is_nest" s_is_nest ["thing"]) (H_good_nest : Has P w K mg base "good_nest" 8 ["thing"] (spP K F_good_nest 1)) : Has P w K mg base "is_nest" 9 ["thing"] (spP K F_is_nest 1) := by
  obtain ⟨f_good_nest, fd_good_nest, O_good_nest, g_good_nest, k_good_nest, b_good_nest⟩ := H_good_nest
  obtain ⟨ff, fd, FF, gg, bb⟩ := X_is_nest
  obtain ⟨W, hw⟩ := w_is_nest T ff O_good_nest g_good_nest k_good_nest b_good_nest
  have o : FnOk P w K mg base CX0 9 ff fd ["thing"] (spP K (runF 1 1 B_is_nest) 1) := fnP (k := 8) FF sc_is_nest hw
  exact ⟨ff, fd, o, gg, FF.kp, bb⟩
abbrev s_need_nest : Stmt := topS 23
theorem sc_need_nest : FnScope ["nest"] ["nest"] (defScope s_need_nest) := ⟨rfl, rfl, rfl, by decide +kernel, rfl, by decide +kernel, by decide +kernel⟩
def B_need_nest : MS := (sIf (cNot (cV (eApp F_good_nest (aCons (eVar 0) aNil)))) sNever sNil)
def F_need_nest : List D → Option D := runF 1 1 B_need_nest
theorem w_need_nest (T : Txt K mg) (ff : Addr) {f_good_nest : Addr} {fd_good_nest : FuncData} (O_good_nest : FnOk P w K mg base CX0 8 f_good_nest fd_good_nest ["thing"] (spP K F_good_nest 1)) (g_good_nest : mg "good_nest" = some (.ref f_good_nest)) (k_good_nest : PySem.W.keepIn K (.ref f_good_nest) = true) (b_good_nest : Binds K fd_good_nest ["thing"] []) : ∃ W : List Nat, ∀ (cdv : Value) (A : Around) (outer : List Env) (s : Shared) (H : Hp) (E : XK), Room 8 (A.deeper (envOfC "need_nest" (defScope s_need_nest) s.heap.objs.size ff cdv)) → QSs (cxOf CX0 P w K mg base ["nest"] "need_nest" (defScope s_need_nest) ff cdv A outer s H E).nox W (defBody s_need_nest) B_need_nest :=
  ⟨_, fun cdv A outer s H E hr => (qs_one (qs_if (qt_not (qt_val (qe_call O_good_nest (hr.mono (by decide)) g_good_nest k_good_nest b_good_nest (qa_cons (qe_var 0) qa_nil)))) (qs_one qs_never) qs_nil))⟩
theorem ok_need_nest (T : Txt K mg) (X_need_nest : Def K mg "need_nest" s_need_nest ["nest"]) (H_good_nest : Has P w K mg base "good_nest" 8 ["thing"] (spP K F_good_nest 1)) : Has P w K mg base "need_nest" 9 ["nest"] (spP K F_need_nest 1) := by
  obtain ⟨f_good_nest, fd_good_nest, O_good_nest, g_good_nest, k_good_nest, b_good_nest⟩ := H_good_nest
  obtain ⟨ff, fd, FF, gg, bb⟩ := X_need_nest
  obtain ⟨W, hw⟩ := w_need_nest T ff O_good_nest g_good_nest k_good_nest b_good_nest
  have o : FnOk P w K mg base CX0 9 ff fd ["nest"] (spP K (runF 1 1 B_need_nest) 1) := fnP (k := 8) FF sc_need_nest hw
  exact ⟨ff, fd, o, gg, FF.kp, bb⟩
abbrev s_is_leaf : Stmt := topS 24
theorem sc_is_leaf : FnScope ["nest"] ["nest"] (defScope s_is_leaf) := ⟨rfl, rfl, rfl, by decide +kernel, rfl, by decide +kernel, by decide +kernel⟩
def B_is_leaf : MS := (sRet (eNot (eOp1 (isaV "str") (eOp2 dIx (eVar 0) (eC (.int 0))))))
def F_is_leaf : List D → Option D := runF 1 1 B_is_leaf
theorem w_is_leaf (T : Txt K mg) (ff : Addr) : ∃ W : List Nat, ∀ (cdv : Value) (A : Around) (outer : List Env) (s : Shared) (H : Hp) (E : XK), Room 0 (A.deeper (envOfC "is_leaf" (defScope s_is_leaf) s.heap.objs.size ff cdv)) → QSs (cxOf CX0 P w K mg base ["nest"] "is_leaf" (defScope s_is_leaf) ff cdv A outer s H E).nox W (defBody s_is_leaf) B_is_leaf :=
  ⟨_, fun cdv A outer s H E hr => (qs_one (qs_ret (qe_not (qe_isa (qe_ix (qe_var 0) qe_int) T.b_isinstance T.b_str))))⟩
theorem ok_is_leaf (T : Txt K mg) (X_is_leaf : Def K mg "is_leaf" s_is_leaf ["nest"]) : Has P w K mg base "is_leaf" 1 ["nest"] (spP K F_is_leaf 1) := by
  obtain ⟨ff, fd, FF, gg, bb⟩ := X_is_leaf
  obtain ⟨W, hw⟩ := w_is_leaf T ff
  have o : FnOk P w K mg base CX0 1 ff fd ["nest"] (spP K (runF 1 1 B_is_leaf) 1) := fnP (k := 0) FF sc_is_leaf hw
  exact ⟨ff, fd, o, gg, FF.kp, bb⟩
abbrev s_proportion_of : Stmt := topS 25
theorem sc_proportion_of : FnScope ["nest", "parts", "part"] ["nest"] (defScope s_proportion_of) := ⟨rfl, rfl, rfl, by decide +kernel, rfl, by decide +kernel, by decide +kernel⟩
def B_proportion_of (F_proportion_of : List D → Option D) : MS := (sSeq (sIf (cV (eApp F_is_leaf (aCons (eVar 0) aNil))) (sRet (eVar 0)) sNil) (sSeq (sAsg (eLc [2] (iSeq (eOp2 dIx (eVar 0) (eC (.int 1)))) (gSet 2) cTrue (eApp F_proportion_of (aCons (eVar 2) aNil))) (gSet 1)) (sSeq (sIf (cV (eOp2 dEq (eOp2 dIx (eVar 0) (eC (.int 0))) (eC (.str "side")))) (sRet (eApp F_total (aCons (eVar 1) aNil))) sNil) (sRet (eApp F_over (aCons (eC (.tuple [(.int 1), (.int 1)])) (aCons (eApp F_total (aCons (eLc [2] (iSeq (eVar 1)) (gSet 2) cTrue (eApp F_over (aCons (eC (.tuple [(.int 1), (.int 1)])) (aCons (eVar 2) aNil)))) aNil)) aNil)))))))
def F_proportion_of : Nat → List D → Option D
  | 0 => fun _ => none
  | n + 1 => runF 1 3 (B_proportion_of (F_proportion_of n))
theorem F_proportion_of_len : ∀ n ds r, F_proportion_of n ds = some r → ds.length = 1
  | 0, _, _, h => nomatch h
  | _ + 1, ds, r, h => runF_len ds r h
theorem w_proportion_of (T : Txt K mg) (ff : Addr) {f_is_leaf : Addr} {fd_is_leaf : FuncData} (O_is_leaf : FnOk P w K mg base CX0 1 f_is_leaf fd_is_leaf ["nest"] (spP K F_is_leaf 1)) (g_is_leaf : mg "is_leaf" = some (.ref f_is_leaf)) (k_is_leaf : PySem.W.keepIn K (.ref f_is_leaf) = true) (b_is_leaf : Binds K fd_is_leaf ["nest"] []) {f_over : Addr} {fd_over : FuncData} (O_over : FnOk P w K mg base CX0 3 f_over fd_over ["one", "other"] (spP K F_over 2)) (g_over : mg "over" = some (.ref f_over)) (k_over : PySem.W.keepIn K (.ref f_over) = true) (b_over : Binds K fd_over ["one", "other"] []) {f_total : Addr} {fd_total : FuncData} (O_total : FnOk P w K mg base CX0 4 f_total fd_total ["some"] (spP K F_total 1)) (g_total : mg "total" = some (.ref f_total)) (k_total : PySem.W.keepIn K (.ref f_total) = true) (b_total : Binds K fd_total ["some"] []) (n : Nat) (G : List D → Option D) (hG : ∀ ds r, G ds = some r → ds.length = 1) {fd : FuncData} (O_proportion_of : FnOk P w K mg base CX0 (n + 4) ff fd ["nest"] (spP K G 1)) (g_proportion_of : mg "proportion_of" = some (.ref ff)) (k_proportion_of : PySem.W.keepIn K (.ref ff) = true) (b_proportion_of : Binds K fd ["nest"] []) : ∃ W : List Nat, ∀ (cdv : Value) (A : Around) (outer : List Env) (s : Shared) (H : Hp) (E : XK), Room (n + 4) (A.deeper (envOfC "proportion_of" (defScope s_proportion_of) s.heap.objs.size ff cdv)) → QSs (cxOf CX0 P w K mg base ["nest", "parts", "part"] "proportion_of" (defScope s_proportion_of) ff cdv A outer s H E).nox W (defBody s_proportion_of) (B_proportion_of G) :=
  ⟨_, fun cdv A outer s H E hr => (qs_cons (qs_if (qt_val (qe_call O_is_leaf (hr.mono (by omega)) g_is_leaf k_is_leaf b_is_leaf (qa_cons (qe_var 0) qa_nil))) (qs_one (qs_ret (qe_var 0))) qs_nil) (qs_cons (qs_setLc 1 [("part", 2)] sc_proportion_of.nd (qi_seq (qe_ix (qe_var 0) qe_int)) (blkOk_by (N := ["nest", "parts", "part"]) (sc := (defScope s_proportion_of)) (by decide +kernel)) (fun _ _ _ _ _ => (qg_name 2 sc_proportion_of.nd)) (fun _ _ _ _ _ => qts_nil) (fun _ _ _ _ _ => (qe_call O_proportion_of hr g_proportion_of k_proportion_of b_proportion_of (qa_cons (qe_var 2) qa_nil) (hF := hG)))) (qs_cons (qs_if (qt_cmp (op_eqD hr.units) d_eq (qe_ix (qe_var 0) qe_int) qe_str) (qs_one (qs_ret (qe_call O_total (hr.mono (by omega)) g_total k_total b_total (qa_cons (qe_var 1) qa_nil)))) qs_nil) (qs_one (qs_ret (qe_call O_over (hr.mono (by omega)) g_over k_over b_over (qa_cons (qe_glob T.g_ONE) (qa_cons (qe_call O_total (hr.mono (by omega)) g_total k_total b_total (qa_cons (qe_lc [("part", 2)] sc_proportion_of.nd (qi_seq (qe_var 1)) (blkOk_by (N := ["nest", "parts", "part"]) (sc := (defScope s_proportion_of)) (by decide +kernel)) (fun _ _ _ _ _ => (qg_name 2 sc_proportion_of.nd)) (fun _ _ _ _ _ => qts_nil) (fun _ _ _ _ _ => (qe_call O_over (hr.mono (by omega)) g_over k_over b_over (qa_cons (qe_glob T.g_ONE) (qa_cons (qe_var 2) qa_nil))))) qa_nil)) qa_nil))))))))⟩
theorem ok_proportion_of (T : Txt K mg) (X_proportion_of : Def K mg "proportion_of" s_proportion_of ["nest"]) (H_is_leaf : Has P w K mg base "is_leaf" 1 ["nest"] (spP K F_is_leaf 1)) (H_over : Has P w K mg base "over" 3 ["one", "other"] (spP K F_over 2)) (H_total : Has P w K mg base "total" 4 ["some"] (spP K F_total 1)) (n : Nat) : Has P w K mg base "proportion_of" (n + 4) ["nest"] (spP K (F_proportion_of n) 1) := by
  obtain ⟨f_is_leaf, fd_is_leaf, O_is_leaf, g_is_leaf, k_is_leaf, b_is_leaf⟩ := H_is_leaf
  obtain ⟨f_over, fd_over, O_over, g_over, k_over, b_over⟩ := H_over
  obtain ⟨f_total, fd_total, O_total, g_total, k_total, b_total⟩ := H_total
  obtain ⟨ff, fd, FF, gg, bb⟩ := X_proportion_of
  refine ⟨ff, fd, ?_, gg, FF.kp, bb⟩
  induction n with
  | zero => exact fnP0 (fun _ => rfl) rfl
  | succ n ih =>
    obtain ⟨W, hw⟩ := w_proportion_of T ff O_is_leaf g_is_leaf k_is_leaf b_is_leaf O_over g_over k_over b_over O_total g_total k_total b_total n (F_proportion_of n) (F_proportion_of_len n) ih gg FF.kp bb
    have o : FnOk P w K mg base CX0 (n + 4 + 1) ff fd ["nest"] (spP K (runF 1 3 (B_proportion_of (F_proportion_of n))) 1) := fnP (k := n + 4) FF sc_proportion_of hw
    have e : n + 1 + 4 = n + 4 + 1 := by omega
    rw [e]
    exact o
abbrev s_nest_proportion : Stmt := topS 26
theorem sc_nest_proportion : FnScope ["nest"] ["nest"] (defScope s_nest_proportion) := ⟨rfl, rfl, rfl, by decide +kernel, rfl, by decide +kernel, by decide +kernel⟩
def B_nest_proportion : MS := (sSeq (sDrop (eApp F_need_nest (aCons (eVar 0) aNil))) (sRet (eApp (F_proportion_of 4) (aCons (eVar 0) aNil))))
def F_nest_proportion : List D → Option D := runF 1 1 B_nest_proportion
theorem w_nest_proportion (T : Txt K mg) (ff : Addr) {f_need_nest : Addr} {fd_need_nest : FuncData} (O_need_nest : FnOk P w K mg base CX0 9 f_need_nest fd_need_nest ["nest"] (spP K F_need_nest 1)) (g_need_nest : mg "need_nest" = some (.ref f_need_nest)) (k_need_nest : PySem.W.keepIn K (.ref f_need_nest) = true) (b_need_nest : Binds K fd_need_nest ["nest"] []) {f_proportion_of : Addr} {fd_proportion_of : FuncData} (O_proportion_of : FnOk P w K mg base CX0 8 f_proportion_of fd_proportion_of ["nest"] (spP K (F_proportion_of 4) 1)) (g_proportion_of : mg "proportion_of" = some (.ref f_proportion_of)) (k_proportion_of : PySem.W.keepIn K (.ref f_proportion_of) = true) (b_proportion_of : Binds K fd_proportion_of ["nest"] []) : ∃ W : List Nat, ∀ (cdv : Value) (A : Around) (outer : List Env) (s : Shared) (H : Hp) (E : XK), Room 9 (A.deeper (envOfC "nest_proportion" (defScope s_nest_proportion) s.heap.objs.size ff cdv)) → QSs (cxOf CX0 P w K mg base ["nest"] "nest_proportion" (defScope s_nest_proportion) ff cdv A outer s H E).nox W (defBody s_nest_proportion) B_nest_proportion :=
  ⟨_, fun cdv A outer s H E hr => (qs_cons (qs_expr (qe_call O_need_nest (hr.mono (by decide)) g_need_nest k_need_nest b_need_nest (qa_cons (qe_var 0) qa_nil))) (qs_one (qs_ret (qe_call O_proportion_of (hr.mono (by decide)) g_proportion_of k_proportion_of b_proportion_of (qa_cons (qe_var 0) qa_nil) (hF := F_proportion_of_len _)))))⟩
theorem ok_nest_proportion (T : Txt K mg) (X_nest_proportion : Def K mg "nest_proportion" s_nest_proportion ["nest"]) (H_need_nest : Has P w K mg base "need_nest" 9 ["nest"] (spP K F_need_nest 1)) (H_proportion_of : Has P w K mg base "proportion_of" 8 ["nest"] (spP K (F_proportion_of 4) 1)) : Has P w K mg base "nest_proportion" 10 ["nest"] (spP K F_nest_proportion 1) := by
  obtain ⟨f_need_nest, fd_need_nest, O_need_nest, g_need_nest, k_need_nest, b_need_nest⟩ := H_need_nest
  obtain ⟨f_proportion_of, fd_proportion_of, O_proportion_of, g_proportion_of, k_proportion_of, b_proportion_of⟩ := H_proportion_of
  obtain ⟨ff, fd, FF, gg, bb⟩ := X_nest_proportion
  obtain ⟨W, hw⟩ := w_nest_proportion T ff O_need_nest g_need_nest k_need_nest b_need_nest O_proportion_of g_proportion_of k_proportion_of b_proportion_of
  have o : FnOk P w K mg base CX0 10 ff fd ["nest"] (spP K (runF 1 1 B_nest_proportion) 1) := fnP (k := 9) FF sc_nest_proportion hw
  exact ⟨ff, fd, o, gg, FF.kp, bb⟩
abbrev s_drawn_in : Stmt := topS 27
theorem sc_drawn_in : FnScope ["nest", "left", "top", "height", "part", "made", "width", "own"] ["nest", "left", "top", "height"] (defScope s_drawn_in) := ⟨rfl, rfl, rfl, by decide +kernel, rfl, by decide +kernel, by decide +kernel⟩
def B_drawn_in (F_drawn_in : List D → Option D) : MS := (sSeq (sIf (cV (eApp F_is_leaf (aCons (eVar 0) aNil))) (sRet (eApp mkLst (aCons (eApp mkTup (aCons (eVar 1) (aCons (eVar 2) (aCons (eApp F_times (aCons (eVar 0) (aCons (eVar 3) aNil))) (aCons (eVar 3) aNil))))) aNil))) sNil) (sSeq (sPar2 5 6 (xOwn (oLst aNil) (xDat (eApp F_times (aCons (eApp (F_proportion_of 4) (aCons (eVar 0) aNil)) (aCons (eVar 3) aNil))) xNil))) (sSeq (sFor (iSeq (eOp2 dIx (eVar 0) (eC (.int 1)))) (gSet 4) (sSeq (sAsg (eApp (F_proportion_of 4) (aCons (eVar 4) aNil)) (gSet 7)) (sIf (cV (eOp2 dEq (eOp2 dIx (eVar 0) (eC (.int 0))) (eC (.str "side")))) (sSeq (sDrop (eExtend 5 (eApp F_drawn_in (aCons (eVar 4) (aCons (eVar 1) (aCons (eVar 2) (aCons (eVar 3) aNil))))))) (sAsg (eApp F_plus (aCons (eVar 1) (aCons (eApp F_times (aCons (eVar 7) (aCons (eVar 3) aNil))) aNil))) (gSet 1))) (sSeq (sDrop (eExtend 5 (eApp F_drawn_in (aCons (eVar 4) (aCons (eVar 1) (aCons (eVar 2) (aCons (eApp F_over (aCons (eVar 6) (aCons (eVar 7) aNil))) aNil))))))) (sAsg (eApp F_plus (aCons (eVar 2) (aCons (eApp F_over (aCons (eVar 6) (aCons (eVar 7) aNil))) aNil))) (gSet 2)))))) (sRet (eVar 5)))))
def F_drawn_in : Nat → List D → Option D
  | 0 => fun _ => none
  | n + 1 => runF 4 8 (B_drawn_in (F_drawn_in n))
theorem F_drawn_in_len : ∀ n ds r, F_drawn_in n ds = some r → ds.length = 4
  | 0, _, _, h => nomatch h
  | _ + 1, ds, r, h => runF_len ds r h
theorem w_drawn_in (T : Txt K mg) (ff : Addr) {f_is_leaf : Addr} {fd_is_leaf : FuncData} (O_is_leaf : FnOk P w K mg base CX0 1 f_is_leaf fd_is_leaf ["nest"] (spP K F_is_leaf 1)) (g_is_leaf : mg "is_leaf" = some (.ref f_is_leaf)) (k_is_leaf : PySem.W.keepIn K (.ref f_is_leaf) = true) (b_is_leaf : Binds K fd_is_leaf ["nest"] []) {f_over : Addr} {fd_over : FuncData} (O_over : FnOk P w K mg base CX0 3 f_over fd_over ["one", "other"] (spP K F_over 2)) (g_over : mg "over" = some (.ref f_over)) (k_over : PySem.W.keepIn K (.ref f_over) = true) (b_over : Binds K fd_over ["one", "other"] []) {f_plus : Addr} {fd_plus : FuncData} (O_plus : FnOk P w K mg base CX0 3 f_plus fd_plus ["one", "other"] (spP K F_plus 2)) (g_plus : mg "plus" = some (.ref f_plus)) (k_plus : PySem.W.keepIn K (.ref f_plus) = true) (b_plus : Binds K fd_plus ["one", "other"] []) {f_proportion_of : Addr} {fd_proportion_of : FuncData} (O_proportion_of : FnOk P w K mg base CX0 8 f_proportion_of fd_proportion_of ["nest"] (spP K (F_proportion_of 4) 1)) (g_proportion_of : mg "proportion_of" = some (.ref f_proportion_of)) (k_proportion_of : PySem.W.keepIn K (.ref f_proportion_of) = true) (b_proportion_of : Binds K fd_proportion_of ["nest"] []) {f_times : Addr} {fd_times : FuncData} (O_times : FnOk P w K mg base CX0 3 f_times fd_times ["one", "other"] (spP K F_times 2)) (g_times : mg "times" = some (.ref f_times)) (k_times : PySem.W.keepIn K (.ref f_times) = true) (b_times : Binds K fd_times ["one", "other"] []) (n : Nat) (G : List D → Option D) (hG : ∀ ds r, G ds = some r → ds.length = 4) {fd : FuncData} (O_drawn_in : FnOk P w K mg base CX0 (n + 8) ff fd ["nest", "left", "top", "height"] (spP K G 4)) (g_drawn_in : mg "drawn_in" = some (.ref ff)) (k_drawn_in : PySem.W.keepIn K (.ref ff) = true) (b_drawn_in : Binds K fd ["nest", "left", "top", "height"] []) : ∃ W : List Nat, ∀ (cdv : Value) (A : Around) (outer : List Env) (s : Shared) (H : Hp) (E : XK), Room (n + 8) (A.deeper (envOfC "drawn_in" (defScope s_drawn_in) s.heap.objs.size ff cdv)) → QSs (cxOf CX0 P w K mg base ["nest", "left", "top", "height", "part", "made", "width", "own"] "drawn_in" (defScope s_drawn_in) ff cdv A outer s H E).nox W (defBody s_drawn_in) (B_drawn_in G) :=
  ⟨_, fun cdv A outer s H E hr => (qs_cons (qs_if (qt_val (qe_call O_is_leaf (hr.mono (by omega)) g_is_leaf k_is_leaf b_is_leaf (qa_cons (qe_var 0) qa_nil))) (qs_one (qs_ret (qe_lst (qa_cons (qe_tup (qa_cons (qe_var 1) (qa_cons (qe_var 2) (qa_cons (qe_call O_times (hr.mono (by omega)) g_times k_times b_times (qa_cons (qe_var 0) (qa_cons (qe_var 3) qa_nil))) (qa_cons (qe_var 3) qa_nil))))) qa_nil)))) qs_nil) (qs_cons (qs_par (i := 5) (j := 6) sc_drawn_in.nd (qx_own (qo_lst qa_nil) (qx_dat (qe_call O_times (hr.mono (by omega)) g_times k_times b_times (qa_cons (qe_call O_proportion_of (hr.mono (by omega)) g_proportion_of k_proportion_of b_proportion_of (qa_cons (qe_var 0) qa_nil) (hF := F_proportion_of_len _)) (qa_cons (qe_var 3) qa_nil))) qx_nil))) (qs_cons (qs_for (qi_seq (qe_ix (qe_var 0) qe_int)) (qg_name 4 sc_drawn_in.nd) (qs_cons (qs_set 7 sc_drawn_in.nd (qe_call O_proportion_of (hr.mono (by omega)) g_proportion_of k_proportion_of b_proportion_of (qa_cons (qe_var 4) qa_nil) (hF := F_proportion_of_len _))) (qs_one (qs_if (qt_cmp (op_eqD hr.units) d_eq (qe_ix (qe_var 0) qe_int) qe_str) (qs_cons (qs_expr (qe_extend 5 (qe_call O_drawn_in hr g_drawn_in k_drawn_in b_drawn_in (qa_cons (qe_var 4) (qa_cons (qe_var 1) (qa_cons (qe_var 2) (qa_cons (qe_var 3) qa_nil)))) (hF := hG)))) (qs_one (qs_set 1 sc_drawn_in.nd (qe_call O_plus (hr.mono (by omega)) g_plus k_plus b_plus (qa_cons (qe_var 1) (qa_cons (qe_call O_times (hr.mono (by omega)) g_times k_times b_times (qa_cons (qe_var 7) (qa_cons (qe_var 3) qa_nil))) qa_nil)))))) (qs_cons (qs_expr (qe_extend 5 (qe_call O_drawn_in hr g_drawn_in k_drawn_in b_drawn_in (qa_cons (qe_var 4) (qa_cons (qe_var 1) (qa_cons (qe_var 2) (qa_cons (qe_call O_over (hr.mono (by omega)) g_over k_over b_over (qa_cons (qe_var 6) (qa_cons (qe_var 7) qa_nil))) qa_nil)))) (hF := hG)))) (qs_one (qs_set 2 sc_drawn_in.nd (qe_call O_plus (hr.mono (by omega)) g_plus k_plus b_plus (qa_cons (qe_var 2) (qa_cons (qe_call O_over (hr.mono (by omega)) g_over k_over b_over (qa_cons (qe_var 6) (qa_cons (qe_var 7) qa_nil))) qa_nil)))))))))) (qs_one (qs_ret (qe_var 5))))))⟩
theorem ok_drawn_in (T : Txt K mg) (X_drawn_in : Def K mg "drawn_in" s_drawn_in ["nest", "left", "top", "height"]) (H_is_leaf : Has P w K mg base "is_leaf" 1 ["nest"] (spP K F_is_leaf 1)) (H_over : Has P w K mg base "over" 3 ["one", "other"] (spP K F_over 2)) (H_plus : Has P w K mg base "plus" 3 ["one", "other"] (spP K F_plus 2)) (H_proportion_of : Has P w K mg base "proportion_of" 8 ["nest"] (spP K (F_proportion_of 4) 1)) (H_times : Has P w K mg base "times" 3 ["one", "other"] (spP K F_times 2)) (n : Nat) : Has P w K mg base "drawn_in" (n + 8) ["nest", "left", "top", "height"] (spP K (F_drawn_in n) 4) := by
  obtain ⟨f_is_leaf, fd_is_leaf, O_is_leaf, g_is_leaf, k_is_leaf, b_is_leaf⟩ := H_is_leaf
  obtain ⟨f_over, fd_over, O_over, g_over, k_over, b_over⟩ := H_over
  obtain ⟨f_plus, fd_plus, O_plus, g_plus, k_plus, b_plus⟩ := H_plus
  obtain ⟨f_proportion_of, fd_proportion_of, O_proportion_of, g_proportion_of, k_proportion_of, b_proportion_of⟩ := H_proportion_of
  obtain ⟨f_times, fd_times, O_times, g_times, k_times, b_times⟩ := H_times
  obtain ⟨ff, fd, FF, gg, bb⟩ := X_drawn_in
  refine ⟨ff, fd, ?_, gg, FF.kp, bb⟩
  induction n with
  | zero => exact fnP0 (fun _ => rfl) rfl
  | succ n ih =>
    obtain ⟨W, hw⟩ := w_drawn_in T ff O_is_leaf g_is_leaf k_is_leaf b_is_leaf O_over g_over k_over b_over O_plus g_plus k_plus b_plus O_proportion_of g_proportion_of k_proportion_of b_proportion_of O_times g_times k_times b_times n (F_drawn_in n) (F_drawn_in_len n) ih gg FF.kp bb
    have o : FnOk P w K mg base CX0 (n + 8 + 1) ff fd ["nest", "left", "top", "height"] (spP K (runF 4 8 (B_drawn_in (F_drawn_in n))) 4) := fnP (k := n + 8) FF sc_drawn_in hw
    have e : n + 1 + 8 = n + 8 + 1 := by omega
    rw [e]
    exact o
abbrev s_drawn : Stmt := topS 28
theorem sc_drawn : FnScope ["nest"] ["nest"] (defScope s_drawn) := ⟨rfl, rfl, rfl, by decide +kernel, rfl, by decide +kernel, by decide +kernel⟩
def B_drawn : MS := (sSeq (sDrop (eApp F_need_nest (aCons (eVar 0) aNil))) (sRet (eApp (F_drawn_in 4) (aCons (eVar 0) (aCons (eC (.tuple [(.int 0), (.int 1)])) (aCons (eC (.tuple [(.int 0), (.int 1)])) (aCons (eC (.tuple [(.int 1), (.int 1)])) aNil)))))))
def F_drawn : List D → Option D := runF 1 1 B_drawn
theorem w_drawn (T : Txt K mg) (ff : Addr) {f_drawn_in : Addr} {fd_drawn_in : FuncData} (O_drawn_in : FnOk P w K mg base CX0 12 f_drawn_in fd_drawn_in ["nest", "left", "top", "height"] (spP K (F_drawn_in 4) 4)) (g_drawn_in : mg "drawn_in" = some (.ref f_drawn_in)) (k_drawn_in : PySem.W.keepIn K (.ref f_drawn_in) = true) (b_drawn_in : Binds K fd_drawn_in ["nest", "left", "top", "height"] []) {f_need_nest : Addr} {fd_need_nest : FuncData} (O_need_nest : FnOk P w K mg base CX0 9 f_need_nest fd_need_nest ["nest"] (spP K F_need_nest 1)) (g_need_nest : mg "need_nest" = some (.ref f_need_nest)) (k_need_nest : PySem.W.keepIn K (.ref f_need_nest) = true) (b_need_nest : Binds K fd_need_nest ["nest"] []) : ∃ W : List Nat, ∀ (cdv : Value) (A : Around) (outer : List Env) (s : Shared) (H : Hp) (E : XK), Room 12 (A.deeper (envOfC "drawn" (defScope s_drawn) s.heap.objs.size ff cdv)) → QSs (cxOf CX0 P w K mg base ["nest"] "drawn" (defScope s_drawn) ff cdv A outer s H E).nox W (defBody s_drawn) B_drawn :=
  ⟨_, fun cdv A outer s H E hr => (qs_cons (qs_expr (qe_call O_need_nest (hr.mono (by decide)) g_need_nest k_need_nest b_need_nest (qa_cons (qe_var 0) qa_nil))) (qs_one (qs_ret (qe_call O_drawn_in (hr.mono (by decide)) g_drawn_in k_drawn_in b_drawn_in (qa_cons (qe_var 0) (qa_cons (qe_glob T.g_NOUGHT) (qa_cons (qe_glob T.g_NOUGHT) (qa_cons (qe_glob T.g_ONE) qa_nil)))) (hF := F_drawn_in_len _)))))⟩
theorem ok_drawn (T : Txt K mg) (X_drawn : Def K mg "drawn" s_drawn ["nest"]) (H_drawn_in : Has P w K mg base "drawn_in" 12 ["nest", "left", "top", "height"] (spP K (F_drawn_in 4) 4)) (H_need_nest : Has P w K mg base "need_nest" 9 ["nest"] (spP K F_need_nest 1)) : Has P w K mg base "drawn" 13 ["nest"] (spP K F_drawn 1) := by
  obtain ⟨f_drawn_in, fd_drawn_in, O_drawn_in, g_drawn_in, k_drawn_in, b_drawn_in⟩ := H_drawn_in
  obtain ⟨f_need_nest, fd_need_nest, O_need_nest, g_need_nest, k_need_nest, b_need_nest⟩ := H_need_nest
  obtain ⟨ff, fd, FF, gg, bb⟩ := X_drawn
  obtain ⟨W, hw⟩ := w_drawn T ff O_drawn_in g_drawn_in k_drawn_in b_drawn_in O_need_nest g_need_nest k_need_nest b_need_nest
  have o : FnOk P w K mg base CX0 13 ff fd ["nest"] (spP K (runF 1 1 B_drawn) 1) := fnP (k := 12) FF sc_drawn hw
  exact ⟨ff, fd, o, gg, FF.kp, bb⟩
abbrev s_quarter_of : Stmt := topS 29
theorem sc_quarter_of : FnScope ["nest", "word", "part"] ["nest"] (defScope s_quarter_of) := ⟨rfl, rfl, rfl, by decide +kernel, rfl, by decide +kernel, by decide +kernel⟩
def B_quarter_of (F_quarter_of : List D → Option D) : MS := (sSeq (sIf (cV (eApp F_is_leaf (aCons (eVar 0) aNil))) (sRet (eApp F_over (aCons (eC (.tuple [(.int 1), (.int 1)])) (aCons (eVar 0) aNil)))) sNil) (sSeq (sAsg (eIf (cV (eOp2 dEq (eOp2 dIx (eVar 0) (eC (.int 0))) (eC (.str "side")))) (eC (.str "stack")) (eC (.str "side"))) (gSet 1)) (sRet (eApp mkTup (aCons (eVar 1) (aCons (eApp dTuple (aCons (eLc [2] (iSeq (eOp2 dIx (eVar 0) (eC (.int 1)))) (gSet 2) cTrue (eApp F_quarter_of (aCons (eVar 2) aNil))) aNil)) aNil))))))
def F_quarter_of : Nat → List D → Option D
  | 0 => fun _ => none
  | n + 1 => runF 1 3 (B_quarter_of (F_quarter_of n))
theorem F_quarter_of_len : ∀ n ds r, F_quarter_of n ds = some r → ds.length = 1
  | 0, _, _, h => nomatch h
  | _ + 1, ds, r, h => runF_len ds r h
theorem w_quarter_of (T : Txt K mg) (ff : Addr) {f_is_leaf : Addr} {fd_is_leaf : FuncData} (O_is_leaf : FnOk P w K mg base CX0 1 f_is_leaf fd_is_leaf ["nest"] (spP K F_is_leaf 1)) (g_is_leaf : mg "is_leaf" = some (.ref f_is_leaf)) (k_is_leaf : PySem.W.keepIn K (.ref f_is_leaf) = true) (b_is_leaf : Binds K fd_is_leaf ["nest"] []) {f_over : Addr} {fd_over : FuncData} (O_over : FnOk P w K mg base CX0 3 f_over fd_over ["one", "other"] (spP K F_over 2)) (g_over : mg "over" = some (.ref f_over)) (k_over : PySem.W.keepIn K (.ref f_over) = true) (b_over : Binds K fd_over ["one", "other"] []) (n : Nat) (G : List D → Option D) (hG : ∀ ds r, G ds = some r → ds.length = 1) {fd : FuncData} (O_quarter_of : FnOk P w K mg base CX0 (n + 3) ff fd ["nest"] (spP K G 1)) (g_quarter_of : mg "quarter_of" = some (.ref ff)) (k_quarter_of : PySem.W.keepIn K (.ref ff) = true) (b_quarter_of : Binds K fd ["nest"] []) : ∃ W : List Nat, ∀ (cdv : Value) (A : Around) (outer : List Env) (s : Shared) (H : Hp) (E : XK), Room (n + 3) (A.deeper (envOfC "quarter_of" (defScope s_quarter_of) s.heap.objs.size ff cdv)) → QSs (cxOf CX0 P w K mg base ["nest", "word", "part"] "quarter_of" (defScope s_quarter_of) ff cdv A outer s H E).nox W (defBody s_quarter_of) (B_quarter_of G) :=
  ⟨_, fun cdv A outer s H E hr => (qs_cons (qs_if (qt_val (qe_call O_is_leaf (hr.mono (by omega)) g_is_leaf k_is_leaf b_is_leaf (qa_cons (qe_var 0) qa_nil))) (qs_one (qs_ret (qe_call O_over (hr.mono (by omega)) g_over k_over b_over (qa_cons (qe_glob T.g_ONE) (qa_cons (qe_var 0) qa_nil))))) qs_nil) (qs_cons (qs_set 1 sc_quarter_of.nd (qe_if (qt_cmp (op_eqD hr.units) d_eq (qe_ix (qe_var 0) qe_int) qe_str) qe_str qe_str)) (qs_one (qs_ret (qe_tup (qa_cons (qe_var 1) (qa_cons (qe_callTy call_tuple_of d_tuple T.b_tuple (qa_cons (qe_lc [("part", 2)] sc_quarter_of.nd (qi_seq (qe_ix (qe_var 0) qe_int)) (blkOk_by (N := ["nest", "word", "part"]) (sc := (defScope s_quarter_of)) (by decide +kernel)) (fun _ _ _ _ _ => (qg_name 2 sc_quarter_of.nd)) (fun _ _ _ _ _ => qts_nil) (fun _ _ _ _ _ => (qe_call O_quarter_of hr g_quarter_of k_quarter_of b_quarter_of (qa_cons (qe_var 2) qa_nil) (hF := hG)))) qa_nil)) qa_nil)))))))⟩
theorem ok_quarter_of (T : Txt K mg) (X_quarter_of : Def K mg "quarter_of" s_quarter_of ["nest"]) (H_is_leaf : Has P w K mg base "is_leaf" 1 ["nest"] (spP K F_is_leaf 1)) (H_over : Has P w K mg base "over" 3 ["one", "other"] (spP K F_over 2)) (n : Nat) : Has P w K mg base "quarter_of" (n + 3) ["nest"] (spP K (F_quarter_of n) 1) := by
  obtain ⟨f_is_leaf, fd_is_leaf, O_is_leaf, g_is_leaf, k_is_leaf, b_is_leaf⟩ := H_is_leaf
  obtain ⟨f_over, fd_over, O_over, g_over, k_over, b_over⟩ := H_over
  obtain ⟨ff, fd, FF, gg, bb⟩ := X_quarter_of
  refine ⟨ff, fd, ?_, gg, FF.kp, bb⟩
  induction n with
  | zero => exact fnP0 (fun _ => rfl) rfl
  | succ n ih =>
    obtain ⟨W, hw⟩ := w_quarter_of T ff O_is_leaf g_is_leaf k_is_leaf b_is_leaf O_over g_over k_over b_over n (F_quarter_of n) (F_quarter_of_len n) ih gg FF.kp bb
    have o : FnOk P w K mg base CX0 (n + 3 + 1) ff fd ["nest"] (spP K (runF 1 3 (B_quarter_of (F_quarter_of n))) 1) := fnP (k := n + 3) FF sc_quarter_of hw
    have e : n + 1 + 3 = n + 3 + 1 := by omega
    rw [e]
    exact o
abbrev s_quarter : Stmt := topS 30
theorem sc_quarter : FnScope ["nest"] ["nest"] (defScope s_quarter) := ⟨rfl, rfl, rfl, by decide +kernel, rfl, by decide +kernel, by decide +kernel⟩
def B_quarter : MS := (sSeq (sDrop (eApp F_need_nest (aCons (eVar 0) aNil))) (sRet (eApp (F_quarter_of 4) (aCons (eVar 0) aNil))))
def F_quarter : List D → Option D := runF 1 1 B_quarter
theorem w_quarter (T : Txt K mg) (ff : Addr) {f_need_nest : Addr} {fd_need_nest : FuncData} (O_need_nest : FnOk P w K mg base CX0 9 f_need_nest fd_need_nest ["nest"] (spP K F_need_nest 1)) (g_need_nest : mg "need_nest" = some (.ref f_need_nest)) (k_need_nest : PySem.W.keepIn K (.ref f_need_nest) = true) (b_need_nest : Binds K fd_need_nest ["nest"] []) {f_quarter_of : Addr} {fd_quarter_of : FuncData} (O_quarter_of : FnOk P w K mg base CX0 7 f_quarter_of fd_quarter_of ["nest"] (spP K (F_quarter_of 4) 1)) (g_quarter_of : mg "quarter_of" = some (.ref f_quarter_of)) (k_quarter_of : PySem.W.keepIn K (.ref f_quarter_of) = true) (b_quarter_of : Binds K fd_quarter_of ["nest"] []) : ∃ W : List Nat, ∀ (cdv : Value) (A : Around) (outer : List Env) (s : Shared) (H : Hp) (E : XK), Room 9 (A.deeper (envOfC "quarter" (defScope s_quarter) s.heap.objs.size ff cdv)) → QSs (cxOf CX0 P w K mg base ["nest"] "quarter" (defScope s_quarter) ff cdv A outer s H E).nox W (defBody s_quarter) B_quarter :=
  ⟨_, fun cdv A outer s H E hr => (qs_cons (qs_expr (qe_call O_need_nest (hr.mono (by decide)) g_need_nest k_need_nest b_need_nest (qa_cons (qe_var 0) qa_nil))) (qs_one (qs_ret (qe_call O_quarter_of (hr.mono (by decide)) g_quarter_of k_quarter_of b_quarter_of (qa_cons (qe_var 0) qa_nil) (hF := F_quarter_of_len _)))))⟩
theorem ok_quarter (T : Txt K mg) (X_quarter : Def K mg "quarter" s_quarter ["nest"]) (H_need_nest : Has P w K mg base "need_nest" 9 ["nest"] (spP K F_need_nest 1)) (H_quarter_of : Has P w K mg base "quarter_of" 7 ["nest"] (spP K (F_quarter_of 4) 1)) : Has P w K mg base "quarter" 10 ["nest"] (spP K F_quarter 1) := by
  obtain ⟨f_need_nest, fd_need_nest, O_need_nest, g_need_nest, k_need_nest, b_need_nest⟩ := H_need_nest
  obtain ⟨f_quarter_of, fd_quarter_of, O_quarter_of, g_quarter_of, k_quarter_of, b_quarter_of⟩ := H_quarter_of
  obtain ⟨ff, fd, FF, gg, bb⟩ := X_quarter
  obtain ⟨W, hw⟩ := w_quarter T ff O_need_nest g_need_nest k_need_nest b_need_nest O_quarter_of g_quarter_of k_quarter_of b_quarter_of
  have o : FnOk P w K mg base CX0 10 ff fd ["nest"] (spP K (runF 1 1 B_quarter) 1) := fnP (k := 9) FF sc_quarter hw
  exact ⟨ff, fd, o, gg, FF.kp, bb⟩
abbrev s__law_both : Stmt := topS 32
theorem sc__law_both : FnScope ["one", "other"] ["one", "other"] (defScope s__law_both) := ⟨rfl, rfl, rfl, by decide +kernel, rfl, by decide +kernel, by decide +kernel⟩
def B__law_both : MS := (sSeq (sWhile fu__law_both (cV (eOp2 dNe (eVar 1) (eC (.int 0)))) (sPar2 0 1 (xDat (eVar 1) (xDat (eOp2 dSub (eVar 0) (eOp2 dMul (eOp2 dDiv (eVar 0) (eVar 1)) (eVar 1))) xNil)))) (sRet (eVar 0)))
def F__law_both : List D → Option D := runF 2 2 B__law_both
theorem w__law_both (T : Txt K mg) (ff : Addr) : ∃ W : List Nat, ∀ (cdv : Value) (A : Around) (outer : List Env) (s : Shared) (H : Hp) (E : XK), Room 0 (A.deeper (envOfC "_law_both" (defScope s__law_both) s.heap.objs.size ff cdv)) → QSs (cxOf CX0 P w K mg base ["one", "other"] "_law_both" (defScope s__law_both) ff cdv A outer s H E).nox W (defBody s__law_both) B__law_both :=
  ⟨_, fun cdv A outer s H E hr => (qs_cons (qs_while fu__law_both (qt_cmp (op_neD hr.units) d_ne (qe_var 1) qe_int) (qs_one (qs_par (i := 0) (j := 1) sc__law_both.nd (qx_dat (qe_var 1) (qx_dat (qe_sub (qe_var 0) (qe_mul (qe_div (qe_var 0) (qe_var 1)) (qe_var 1))) qx_nil))))) (qs_one (qs_ret (qe_var 0))))⟩
theorem ok__law_both (T : Txt K mg) (X__law_both : Def K mg "_law_both" s__law_both ["one", "other"]) : Has P w K mg base "_law_both" 1 ["one", "other"] (spP K F__law_both 2) := by
  obtain ⟨ff, fd, FF, gg, bb⟩ := X__law_both
  obtain ⟨W, hw⟩ := w__law_both T ff
  have o : FnOk P w K mg base CX0 1 ff fd ["one", "other"] (spP K (runF 2 2 B__law_both) 2) := fnP (k := 0) FF sc__law_both hw
  exact ⟨ff, fd, o, gg, FF.kp, bb⟩
abbrev s__law_part : Stmt := topS 33
theorem sc__law_part : FnScope ["top", "bottom", "by"] ["top", "bottom"] (defScope s__law_part) := ⟨rfl, rfl, rfl, by decide +kernel, rfl, by decide +kernel, by decide +kernel⟩
def B__law_part : MS := (sSeq (sIf (cV (eOp2 dLt (eVar 1) (eC (.int 0)))) (sPar2 0 1 (xDat (eOp2 dSub (eC (.int 0)) (eVar 0)) (xDat (eOp2 dSub (eC (.int 0)) (eVar 1)) xNil))) sNil) (sSeq (sAsg (eApp F__law_both (aCons (eApp dAbs (aCons (eVar 0) aNil)) (aCons (eVar 1) aNil))) (gSet 2)) (sRet (eApp mkTup (aCons (eOp2 dDiv (eVar 0) (eVar 2)) (aCons (eOp2 dDiv (eVar 1) (eVar 2)) aNil))))))
def F__law_part : List D → Option D := runF 2 3 B__law_part
theorem w__law_part (T : Txt K mg) (ff : Addr) {f__law_both : Addr} {fd__law_both : FuncData} (O__law_both : FnOk P w K mg base CX0 1 f__law_both fd__law_both ["one", "other"] (spP K F__law_both 2)) (g__law_both : mg "_law_both" = some (.ref f__law_both)) (k__law_both : PySem.W.keepIn K (.ref f__law_both) = true) (b__law_both : Binds K fd__law_both ["one", "other"] []) : ∃ W : List Nat, ∀ (cdv : Value) (A : Around) (outer : List Env) (s : Shared) (H : Hp) (E : XK), Room 1 (A.deeper (envOfC "_law_part" (defScope s__law_part) s.heap.objs.size ff cdv)) → QSs (cxOf CX0 P w K mg base ["top", "bottom", "by"] "_law_part" (defScope s__law_part) ff cdv A outer s H E).nox W (defBody s__law_part) B__law_part :=
  ⟨_, fun cdv A outer s H E hr => (qs_cons (qs_if (qt_cmp op_lt d_lt (qe_var 1) qe_int) (qs_one (qs_par (i := 0) (j := 1) sc__law_part.nd (qx_dat (qe_sub qe_int (qe_var 0)) (qx_dat (qe_sub qe_int (qe_var 1)) qx_nil)))) qs_nil) (qs_cons (qs_set 2 sc__law_part.nd (qe_call O__law_both (hr.mono (by decide)) g__law_both k__law_both b__law_both (qa_cons (qe_callB call_abs d_abs T.b_abs (qa_cons (qe_var 0) qa_nil)) (qa_cons (qe_var 1) qa_nil)))) (qs_one (qs_ret (qe_tup (qa_cons (qe_div (qe_var 0) (qe_var 2)) (qa_cons (qe_div (qe_var 1) (qe_var 2)) qa_nil)))))))⟩
theorem ok__law_part (T : Txt K mg) (X__law_part : Def K mg "_law_part" s__law_part ["top", "bottom"]) (H__law_both : Has P w K mg base "_law_both" 1 ["one", "other"] (spP K F__law_both 2)) : Has P w K mg base "_law_part" 2 ["top", "bottom"] (spP K F__law_part 2) := by
  obtain ⟨f__law_both, fd__law_both, O__law_both, g__law_both, k__law_both, b__law_both⟩ := H__law_both
  obtain ⟨ff, fd, FF, gg, bb⟩ := X__law_part
  obtain ⟨W, hw⟩ := w__law_part T ff O__law_both g__law_both k__law_both b__law_both
  have o : FnOk P w K mg base CX0 2 ff fd ["top", "bottom"] (spP K (runF 2 3 B__law_part) 2) := fnP (k := 1) FF sc__law_part hw
  exact ⟨ff, fd, o, gg, FF.kp, bb⟩
abbrev s__law_by : Stmt := topS 34
theorem sc__law_by : FnScope ["one", "other"] ["one", "other"] (defScope s__law_by) := ⟨rfl, rfl, rfl, by decide +kernel, rfl, by decide +kernel, by decide +kernel⟩
def B__law_by : MS := (sRet (eApp F__law_part (aCons (eOp2 dMul (eOp2 dIx (eVar 0) (eC (.int 0))) (eOp2 dIx (eVar 1) (eC (.int 0)))) (aCons (eOp2 dMul (eOp2 dIx (eVar 0) (eC (.int 1))) (eOp2 dIx (eVar 1) (eC (.int 1)))) aNil))))
def F__law_by : List D → Option D := runF 2 2 B__law_by
theorem w__law_by (T : Txt K mg) (ff : Addr) {f__law_part : Addr} {fd__law_part : FuncData} (O__law_part : FnOk P w K mg base CX0 2 f__law_part fd__law_part ["top", "bottom"] (spP K F__law_part 2)) (g__law_part : mg "_law_part" = some (.ref f__law_part)) (k__law_part : PySem.W.keepIn K (.ref f__law_part) = true) (b__law_part : Binds K fd__law_part ["top", "bottom"] []) : ∃ W : List Nat, ∀ (cdv : Value) (A : Around) (outer : List Env) (s : Shared) (H : Hp) (E : XK), Room 2 (A.deeper (envOfC "_law_by" (defScope s__law_by) s.heap.objs.size ff cdv)) → QSs (cxOf CX0 P w K mg base ["one", "other"] "_law_by" (defScope s__law_by) ff cdv A outer s H E).nox W (defBody s__law_by) B__law_by :=
  ⟨_, fun cdv A outer s H E hr => (qs_one (qs_ret (qe_call O__law_part (hr.mono (by decide)) g__law_part k__law_part b__law_part (qa_cons (qe_mul (qe_ix (qe_var 0) qe_int) (qe_ix (qe_var 1) qe_int)) (qa_cons (qe_mul (qe_ix (qe_var 0) qe_int) (qe_ix (qe_var 1) qe_int)) qa_nil)))))⟩
theorem ok__law_by (T : Txt K mg) (X__law_by : Def K mg "_law_by" s__law_by ["one", "other"]) (H__law_part : Has P w K mg base "_law_part" 2 ["top", "bottom"] (spP K F__law_part 2)) : Has P w K mg base "_law_by" 3 ["one", "other"] (spP K F__law_by 2) := by
  obtain ⟨f__law_part, fd__law_part, O__law_part, g__law_part, k__law_part, b__law_part⟩ := H__law_part
  obtain ⟨ff, fd, FF, gg, bb⟩ := X__law_by
  obtain ⟨W, hw⟩ := w__law_by T ff O__law_part g__law_part k__law_part b__law_part
  have o : FnOk P w K mg base CX0 3 ff fd ["one", "other"] (spP K (runF 2 2 B__law_by) 2) := fnP (k := 2) FF sc__law_by hw
  exact ⟨ff, fd, o, gg, FF.kp, bb⟩
abbrev s__law_cell_at : Stmt := topS 35
theorem sc__law_cell_at : FnScope ["script", "k", "spare", "again"] ["script", "k"] (defScope s__law_cell_at) := ⟨rfl, rfl, rfl, by decide +kernel, rfl, by decide +kernel, by decide +kernel⟩
def B__law_cell_at : MS := (sSeq (sIf (cV (eOp2 dLt (eVar 1) (eLenS 0))) (sRet (eIxS 0 (eVar 1))) sNil) (sSeq (sIf (cV (eEqNilS 0)) (sRet (eC (.int 0))) sNil) (sSeq (sAsg (eIxS 0 (eOp2 dMod (eVar 1) (eLenS 0))) (gSet 2)) (sSeq (sFor (iApp rng1 (aCons (eApp dMin (aCons (eOp2 dDiv (eVar 1) (eLenS 0)) (aCons (eC (.int 60)) aNil))) aNil)) (gSet 3) (sAsg (eOp2 dDiv (eVar 2) (eC (.int 1000003))) (gSet 2))) (sRet (eOp2 dAdd (eOp2 dAdd (eOp2 dMul (eIxS 0 (eOp2 dMod (eVar 1) (eLenS 0))) (eC (.int 31))) (eVar 1)) (eOp2 dMul (eVar 2) (eC (.int 101)))))))))
def F__law_cell_at : List Sl → Option (D × List Sl) := runO [] 2 4 B__law_cell_at
theorem w__law_cell_at (T : Txt K mg) (ff : Addr) : ∃ W : List Nat, (∀ i ∈ ([] : List Nat), i ∉ W) ∧ ∀ (cdv : Value) (A : Around) (outer : List Env) (s : Shared) (H : Hp) (E : XK), Room 0 (A.deeper (envOfC "_law_cell_at" (defScope s__law_cell_at) s.heap.objs.size ff cdv)) → QSs (cxOf CX0 P w K mg base ["script", "k", "spare", "again"] "_law_cell_at" (defScope s__law_cell_at) ff cdv A outer s H E).nox W (defBody s__law_cell_at) B__law_cell_at :=
  ⟨_, by decide, fun cdv A outer s H E hr => (qs_cons (qs_if (qt_cmp op_lt d_lt (qe_var 1) (qe_lenS 0 T.b_len)) (qs_one (qs_ret (qe_ixS 0 (qe_var 1)))) qs_nil) (qs_cons (qs_if (qt_eqNilS 0 hr) (qs_one (qs_ret qe_int)) qs_nil) (qs_cons (qs_set 2 sc__law_cell_at.nd (qe_ixS 0 (qe_mod (qe_var 1) (qe_lenS 0 T.b_len)))) (qs_cons (qs_for (qi_range1 T.b_range (qa_cons (qe_callB (call_min2 rfl) d_min T.b_min (qa_cons (qe_div (qe_var 1) (qe_lenS 0 T.b_len)) (qa_cons qe_int qa_nil))) qa_nil)) (qg_name 3 sc__law_cell_at.nd) (qs_one (qs_set 2 sc__law_cell_at.nd (qe_div (qe_var 2) qe_int)))) (qs_one (qs_ret (qe_add (qe_add (qe_mul (qe_ixS 0 (qe_mod (qe_var 1) (qe_lenS 0 T.b_len))) qe_int) (qe_var 1)) (qe_mul (qe_var 2) qe_int))))))))⟩
theorem ok__law_cell_at (T : Txt K mg) (X__law_cell_at : Def K mg "_law_cell_at" s__law_cell_at ["script", "k"]) : Has P w K mg base "_law_cell_at" 1 ["script", "k"] (spO K F__law_cell_at 2) := by
  obtain ⟨ff, fd, FF, gg, bb⟩ := X__law_cell_at
  obtain ⟨W, hW, hw⟩ := w__law_cell_at T ff
  have o : FnOk P w K mg base CX0 1 ff fd ["script", "k"] (spO K (runO [] 2 4 B__law_cell_at) 2) := fnO (k := 0) FF sc__law_cell_at hw [] hW
  exact ⟨ff, fd, o, gg, FF.kp, bb⟩
abbrev s__law_mixed : Stmt := topS 36
theorem sc__law_mixed : FnScope ["script", "k", "bound", "spun"] ["script", "k", "bound"] (defScope s__law_mixed) := ⟨rfl, rfl, rfl, by decide +kernel, rfl, by decide +kernel, by decide +kernel⟩
def B__law_mixed : MS := (sSeq (sAsg (eOp2 dMod (eOp2 dAdd (eOp2 dAdd (eOp2 dMul (eAppO F__law_cell_at (yVar 0 (yDat (eVar 1) yNil))) (eC (.int 1103515245))) (eOp2 dMul (eC (.int 7919)) (eVar 1))) (eC (.int 12345))) (eC (.int 2147483647))) (gSet 3)) (sRet (eOp2 dMod (eOp2 dMod (eOp2 dMod (eOp2 dPow (eVar 3) (eC (.int 5))) (eC (.int 2147483647))) (eC (.int 999983))) (eVar 2))))
def F__law_mixed : List Sl → Option (D × List Sl) := runO [] 3 4 B__law_mixed
theorem w__law_mixed (T : Txt K mg) (ff : Addr) {f__law_cell_at : Addr} {fd__law_cell_at : FuncData} (O__law_cell_at : FnOk P w K mg base CX0 1 f__law_cell_at fd__law_cell_at ["script", "k"] (spO K F__law_cell_at 2)) (g__law_cell_at : mg "_law_cell_at" = some (.ref f__law_cell_at)) (k__law_cell_at : PySem.W.keepIn K (.ref f__law_cell_at) = true) (b__law_cell_at : Binds K fd__law_cell_at ["script", "k"] []) : ∃ W : List Nat, (∀ i ∈ ([] : List Nat), i ∉ W) ∧ ∀ (cdv : Value) (A : Around) (outer : List Env) (s : Shared) (H : Hp) (E : XK), Room 1 (A.deeper (envOfC "_law_mixed" (defScope s__law_mixed) s.heap.objs.size ff cdv)) → QSs (cxOf CX0 P w K mg base ["script", "k", "bound", "spun"] "_law_mixed" (defScope s__law_mixed) ff cdv A outer s H E).nox W (defBody s__law_mixed) B__law_mixed :=
  ⟨_, by decide, fun cdv A outer s H E hr => (qs_cons (qs_set 3 sc__law_mixed.nd (qe_mod (qe_add (qe_add (qe_mul (qe_callO O__law_cell_at (hr.mono (by decide)) g__law_cell_at k__law_cell_at b__law_cell_at (qy_var 0 (qy_dat (qe_var 1) qy_nil)) (hF := runO_ok)) qe_int) (qe_mul qe_int (qe_var 1))) qe_int) qe_int)) (qs_one (qs_ret (qe_mod (qe_mod (qe_mod (qe_pow (qe_var 3) qe_int) qe_int) qe_int) (qe_var 2)))))⟩
theorem ok__law_mixed (T : Txt K mg) (X__law_mixed : Def K mg "_law_mixed" s__law_mixed ["script", "k", "bound"]) (H__law_cell_at : Has P w K mg base "_law_cell_at" 1 ["script", "k"] (spO K F__law_cell_at 2)) : Has P w K mg base "_law_mixed" 2 ["script", "k", "bound"] (spO K F__law_mixed 3) := by
  obtain ⟨f__law_cell_at, fd__law_cell_at, O__law_cell_at, g__law_cell_at, k__law_cell_at, b__law_cell_at⟩ := H__law_cell_at
  obtain ⟨ff, fd, FF, gg, bb⟩ := X__law_mixed
  obtain ⟨W, hW, hw⟩ := w__law_mixed T ff O__law_cell_at g__law_cell_at k__law_cell_at b__law_cell_at
  have o : FnOk P w K mg base CX0 2 ff fd ["script", "k", "bound"] (spO K (runO [] 3 4 B__law_mixed) 3) := fnO (k := 1) FF sc__law_mixed hw [] hW
  exact ⟨ff, fd, o, gg, FF.kp, bb⟩
abbrev s__law_draw : Stmt := topS 37
theorem sc__law_draw : FnScope ["script", "town", "bound"] ["script", "town", "bound"] (defScope s__law_draw) := ⟨rfl, rfl, rfl, by decide +kernel, rfl, by decide +kernel, by decide +kernel⟩
def B__law_draw : MS := (sSeq (sDrop (eAppend 1 (eC (.int 0)))) (sRet (eAppO F__law_mixed (yVar 0 (yDat (eLenO 1) (yDat (eVar 2) yNil))))))
def F__law_draw : List Sl → Option (D × List Sl) := runO [1] 3 3 B__law_draw
theorem w__law_draw (T : Txt K mg) (ff : Addr) {f__law_mixed : Addr} {fd__law_mixed : FuncData} (O__law_mixed : FnOk P w K mg base CX0 2 f__law_mixed fd__law_mixed ["script", "k", "bound"] (spO K F__law_mixed 3)) (g__law_mixed : mg "_law_mixed" = some (.ref f__law_mixed)) (k__law_mixed : PySem.W.keepIn K (.ref f__law_mixed) = true) (b__law_mixed : Binds K fd__law_mixed ["script", "k", "bound"] []) : ∃ W : List Nat, (∀ i ∈ ([1] : List Nat), i ∉ W) ∧ ∀ (cdv : Value) (A : Around) (outer : List Env) (s : Shared) (H : Hp) (E : XK), Room 2 (A.deeper (envOfC "_law_draw" (defScope s__law_draw) s.heap.objs.size ff cdv)) → QSs (cxOf CX0 P w K mg base ["script", "town", "bound"] "_law_draw" (defScope s__law_draw) ff cdv A outer s H E).nox W (defBody s__law_draw) B__law_draw :=
  ⟨_, by decide, fun cdv A outer s H E hr => (qs_cons (qs_expr (qe_append 1 qe_int)) (qs_one (qs_ret (qe_callO O__law_mixed (hr.mono (by decide)) g__law_mixed k__law_mixed b__law_mixed (qy_var 0 (qy_dat (qe_lenO 1 T.b_len) (qy_dat (qe_var 2) qy_nil))) (hF := runO_ok)))))⟩
theorem ok__law_draw (T : Txt K mg) (X__law_draw : Def K mg "_law_draw" s__law_draw ["script", "town", "bound"]) (H__law_mixed : Has P w K mg base "_law_mixed" 2 ["script", "k", "bound"] (spO K F__law_mixed 3)) : Has P w K mg base "_law_draw" 3 ["script", "town", "bound"] (spO K F__law_draw 3) := by
  obtain ⟨f__law_mixed, fd__law_mixed, O__law_mixed, g__law_mixed, k__law_mixed, b__law_mixed⟩ := H__law_mixed
  obtain ⟨ff, fd, FF, gg, bb⟩ := X__law_draw
  obtain ⟨W, hW, hw⟩ := w__law_draw T ff O__law_mixed g__law_mixed k__law_mixed b__law_mixed
  have o : FnOk P w K mg base CX0 3 ff fd ["script", "town", "bound"] (spO K (runO [1] 3 3 B__law_draw) 3) := fnO (k := 2) FF sc__law_draw hw [1] hW
  exact ⟨ff, fd, o, gg, FF.kp, bb⟩
abbrev s__law_pick : Stmt := topS 38
theorem sc__law_pick : FnScope ["script", "town", "some"] ["script", "town", "some"] (defScope s__law_pick) := ⟨rfl, rfl, rfl, by decide +kernel, rfl, by decide +kernel, by decide +kernel⟩
def B__law_pick : MS := (sRet (eOp2 dIx (eVar 2) (eAppO F__law_draw (yVar 0 (yVar 1 (yDat (eApp dLen (aCons (eVar 2) aNil)) yNil))))))
def F__law_pick : List Sl → Option (D × List Sl) := runO [1] 3 3 B__law_pick
theorem w__law_pick (T : Txt K mg) (ff : Addr) {f__law_draw : Addr} {fd__law_draw : FuncData} (O__law_draw : FnOk P w K mg base CX0 3 f__law_draw fd__law_draw ["script", "town", "bound"] (spO K F__law_draw 3)) (g__law_draw : mg "_law_draw" = some (.ref f__law_draw)) (k__law_draw : PySem.W.keepIn K (.ref f__law_draw) = true) (b__law_draw : Binds K fd__law_draw ["script", "town", "bound"] []) : ∃ W : List Nat, (∀ i ∈ ([1] : List Nat), i ∉ W) ∧ ∀ (cdv : Value) (A : Around) (outer : List Env) (s : Shared) (H : Hp) (E : XK), Room 3 (A.deeper (envOfC "_law_pick" (defScope s__law_pick) s.heap.objs.size ff cdv)) → QSs (cxOf CX0 P w K mg base ["script", "town", "some"] "_law_pick" (defScope s__law_pick) ff cdv A outer s H E).nox W (defBody s__law_pick) B__law_pick :=
  ⟨_, by decide, fun cdv A outer s H E hr => (qs_one (qs_ret (qe_ix (qe_var 2) (qe_callO O__law_draw (hr.mono (by decide)) g__law_draw k__law_draw b__law_draw (qy_var 0 (qy_var 1 (qy_dat (qe_callB call_len_seq d_len T.b_len (qa_cons (qe_var 2) qa_nil)) qy_nil))) (hF := runO_ok)))))⟩
theorem ok__law_pick (T : Txt K mg) (X__law_pick : Def K mg "_law_pick" s__law_pick ["script", "town", "some"]) (H__law_draw : Has P w K mg base "_law_draw" 3 ["script", "town", "bound"] (spO K F__law_draw 3)) : Has P w K mg base "_law_pick" 4 ["script", "town", "some"] (spO K F__law_pick 3) := by
  obtain ⟨f__law_draw, fd__law_draw, O__law_draw, g__law_draw, k__law_draw, b__law_draw⟩ := H__law_draw
  obtain ⟨ff, fd, FF, gg, bb⟩ := X__law_pick
  obtain ⟨W, hW, hw⟩ := w__law_pick T ff O__law_draw g__law_draw k__law_draw b__law_draw
  have o : FnOk P w K mg base CX0 4 ff fd ["script", "town", "some"] (spO K (runO [1] 3 3 B__law_pick) 3) := fnO (k := 3) FF sc__law_pick hw [1] hW
  exact ⟨ff, fd, o, gg, FF.kp, bb⟩
abbrev s__law_some_proportion : Stmt := topS 39
theorem sc__law_some_proportion : FnScope ["script", "town"] ["script", "town"] (defScope s__law_some_proportion) := ⟨rfl, rfl, rfl, by decide +kernel, rfl, by decide +kernel, by decide +kernel⟩
def B__law_some_proportion : MS := (sRet (eApp F__law_part (aCons (eOp2 dAdd (eC (.int 1)) (eAppO F__law_draw (yVar 0 (yVar 1 (yDat (eAppO F__law_pick (yVar 0 (yVar 1 (yDat (eApp mkLst (aCons (eC (.int 1)) (aCons (eC (.int 4)) (aCons (eC (.int 30)) aNil)))) yNil)))) yNil))))) (aCons (eOp2 dAdd (eC (.int 1)) (eAppO F__law_draw (yVar 0 (yVar 1 (yDat (eC (.int 4)) yNil))))) aNil))))
def F__law_some_proportion : List Sl → Option (D × List Sl) := runO [1] 2 2 B__law_some_proportion
theorem w__law_some_proportion (T : Txt K mg) (ff : Addr) {f__law_draw : Addr} {fd__law_draw : FuncData} (O__law_draw : FnOk P w K mg base CX0 3 f__law_draw fd__law_draw ["script", "town", "bound"] (spO K F__law_draw 3)) (g__law_draw : mg "_law_draw" = some (.ref f__law_draw)) (k__law_draw : PySem.W.keepIn K (.ref f__law_draw) = true) (b__law_draw : Binds K fd__law_draw ["script", "town", "bound"] []) {f__law_part : Addr} {fd__law_part : FuncData} (O__law_part : FnOk P w K mg base CX0 2 f__law_part fd__law_part ["top", "bottom"] (spP K F__law_part 2)) (g__law_part : mg "_law_part" = some (.ref f__law_part)) (k__law_part : PySem.W.keepIn K (.ref f__law_part) = true) (b__law_part : Binds K fd__law_part ["top", "bottom"] []) {f__law_pick : Addr} {fd__law_pick : FuncData} (O__law_pick : FnOk P w K mg base CX0 4 f__law_pick fd__law_pick ["script", "town", "some"] (spO K F__law_pick 3)) (g__law_pick : mg "_law_pick" = some (.ref f__law_pick)) (k__law_pick : PySem.W.keepIn K (.ref f__law_pick) = true) (b__law_pick : Binds K fd__law_pick ["script", "town", "some"] []) : ∃ W : List Nat, (∀ i ∈ ([1] : List Nat), i ∉ W) ∧ ∀ (cdv : Value) (A : Around) (outer : List Env) (s : Shared) (H : Hp) (E : XK), Room 4 (A.deeper (envOfC "_law_some_proportion" (defScope s__law_some_proportion) s.heap.objs.size ff cdv)) → QSs (cxOf CX0 P w K mg base ["script", "town"] "_law_some_proportion" (defScope s__law_some_proportion) ff cdv A outer s H E).nox W (defBody s__law_some_proportion) B__law_some_proportion :=
  ⟨_, by decide, fun cdv A outer s H E hr => (qs_one (qs_ret (qe_call O__law_part (hr.mono (by decide)) g__law_part k__law_part b__law_part (qa_cons (qe_add qe_int (qe_callO O__law_draw (hr.mono (by decide)) g__law_draw k__law_draw b__law_draw (qy_var 0 (qy_var 1 (qy_dat (qe_callO O__law_pick (hr.mono (by decide)) g__law_pick k__law_pick b__law_pick (qy_var 0 (qy_var 1 (qy_dat (qe_lst (qa_cons qe_int (qa_cons qe_int (qa_cons qe_int qa_nil)))) qy_nil))) (hF := runO_ok)) qy_nil))) (hF := runO_ok))) (qa_cons (qe_add qe_int (qe_callO O__law_draw (hr.mono (by decide)) g__law_draw k__law_draw b__law_draw (qy_var 0 (qy_var 1 (qy_dat qe_int qy_nil))) (hF := runO_ok))) qa_nil)))))⟩
theorem ok__law_some_proportion (T : Txt K mg) (X__law_some_proportion : Def K mg "_law_some_proportion" s__law_some_proportion ["script", "town"]) (H__law_draw : Has P w K mg base "_law_draw" 3 ["script", "town", "bound"] (spO K F__law_draw 3)) (H__law_part : Has P w K mg base "_law_part" 2 ["top", "bottom"] (spP K F__law_part 2)) (H__law_pick : Has P w K mg base "_law_pick" 4 ["script", "town", "some"] (spO K F__law_pick 3)) : Has P w K mg base "_law_some_proportion" 5 ["script", "town"] (spO K F__law_some_proportion 2) := by
  obtain ⟨f__law_draw, fd__law_draw, O__law_draw, g__law_draw, k__law_draw, b__law_draw⟩ := H__law_draw
  obtain ⟨f__law_part, fd__law_part, O__law_part, g__law_part, k__law_part, b__law_part⟩ := H__law_part
  obtain ⟨f__law_pick, fd__law_pick, O__law_pick, g__law_pick, k__law_pick, b__law_pick⟩ := H__law_pick
  obtain ⟨ff, fd, FF, gg, bb⟩ := X__law_some_proportion
  obtain ⟨W, hW, hw⟩ := w__law_some_proportion T ff O__law_draw g__law_draw k__law_draw b__law_draw O__law_part g__law_part k__law_part b__law_part O__law_pick g__law_pick k__law_pick b__law_pick
  have o : FnOk P w K mg base CX0 5 ff fd ["script", "town"] (spO K (runO [1] 2 2 B__law_some_proportion) 2) := fnO (k := 4) FF sc__law_some_proportion hw [1] hW
  exact ⟨ff, fd, o, gg, FF.kp, bb⟩
abbrev s__law_some_nest : Stmt := topS 40
theorem sc__law_some_nest : FnScope ["script", "town", "left", "parts", "part"] ["script", "town", "left"] (defScope s__law_some_nest) := ⟨rfl, rfl, rfl, by decide +kernel, rfl, by decide +kernel, by decide +kernel⟩
def B__law_some_nest (F__law_some_nest : List Sl → Option (D × List Sl)) : MS := (sSeq (sIf (cOr (cV (eOp2 dEq (eVar 2) (eC (.int 0)))) (cV (eOp2 dEq (eAppO F__law_draw (yVar 0 (yVar 1 (yDat (eC (.int 3)) yNil)))) (eC (.int 0))))) (sRet (eAppO F__law_some_proportion (yVar 0 (yVar 1 yNil)))) sNil) (sSeq (sAsg (eLc [4] (iApp rng1 (aCons (eOp2 dAdd (eC (.int 2)) (eAppO F__law_draw (yVar 0 (yVar 1 (yDat (eC (.int 2)) yNil))))) aNil)) (gSet 4) cTrue (eAppO F__law_some_nest (yVar 0 (yVar 1 (yDat (eOp2 dSub (eVar 2) (eC (.int 1))) yNil))))) (gSet 3)) (sRet (eApp mkTup (aCons (eAppO F__law_pick (yVar 0 (yVar 1 (yDat (eApp mkLst (aCons (eC (.str "side")) (aCons (eC (.str "stack")) aNil))) yNil)))) (aCons (eApp dTuple (aCons (eVar 3) aNil)) aNil))))))
def F__law_some_nest : Nat → List Sl → Option (D × List Sl)
  | 0 => fun _ => none
  | n + 1 => runO [1] 3 5 (B__law_some_nest (F__law_some_nest n))
theorem F__law_some_nest_len : ∀ n, FOk 3 (F__law_some_nest n)
  | 0 => fOk0
  | _ + 1 => runO_ok
theorem w__law_some_nest (T : Txt K mg) (ff : Addr) {f__law_draw : Addr} {fd__law_draw : FuncData} (O__law_draw : FnOk P w K mg base CX0 3 f__law_draw fd__law_draw ["script", "town", "bound"] (spO K F__law_draw 3)) (g__law_draw : mg "_law_draw" = some (.ref f__law_draw)) (k__law_draw : PySem.W.keepIn K (.ref f__law_draw) = true) (b__law_draw : Binds K fd__law_draw ["script", "town", "bound"] []) {f__law_pick : Addr} {fd__law_pick : FuncData} (O__law_pick : FnOk P w K mg base CX0 4 f__law_pick fd__law_pick ["script", "town", "some"] (spO K F__law_pick 3)) (g__law_pick : mg "_law_pick" = some (.ref f__law_pick)) (k__law_pick : PySem.W.keepIn K (.ref f__law_pick) = true) (b__law_pick : Binds K fd__law_pick ["script", "town", "some"] []) {f__law_some_proportion : Addr} {fd__law_some_proportion : FuncData} (O__law_some_proportion : FnOk P w K mg base CX0 5 f__law_some_proportion fd__law_some_proportion ["script", "town"] (spO K F__law_some_proportion 2)) (g__law_some_proportion : mg "_law_some_proportion" = some (.ref f__law_some_proportion)) (k__law_some_proportion : PySem.W.keepIn K (.ref f__law_some_proportion) = true) (b__law_some_proportion : Binds K fd__law_some_proportion ["script", "town"] []) (n : Nat) (G : List Sl → Option (D × List Sl)) (hG : FOk 3 G) {fd : FuncData} (O__law_some_nest : FnOk P w K mg base CX0 (n + 5) ff fd ["script", "town", "left"] (spO K G 3)) (g__law_some_nest : mg "_law_some_nest" = some (.ref ff)) (k__law_some_nest : PySem.W.keepIn K (.ref ff) = true) (b__law_some_nest : Binds K fd ["script", "town", "left"] []) : ∃ W : List Nat, (∀ i ∈ ([1] : List Nat), i ∉ W) ∧ ∀ (cdv : Value) (A : Around) (outer : List Env) (s : Shared) (H : Hp) (E : XK), Room (n + 5) (A.deeper (envOfC "_law_some_nest" (defScope s__law_some_nest) s.heap.objs.size ff cdv)) → QSs (cxOf CX0 P w K mg base ["script", "town", "left", "parts", "part"] "_law_some_nest" (defScope s__law_some_nest) ff cdv A outer s H E).nox W (defBody s__law_some_nest) (B__law_some_nest G) :=
  ⟨_, by decide, fun cdv A outer s H E hr => (qs_cons (qs_if (qw_pt (qw_or (qt_cmp (op_eqD hr.units) d_eq (qe_var 2) qe_int) (qw_or1 (qt_cmp (op_eqD hr.units) d_eq (qe_callO O__law_draw (hr.mono (by omega)) g__law_draw k__law_draw b__law_draw (qy_var 0 (qy_var 1 (qy_dat qe_int qy_nil))) (hF := runO_ok)) qe_int)))) (qs_one (qs_ret (qe_callO O__law_some_proportion (hr.mono (by omega)) g__law_some_proportion k__law_some_proportion b__law_some_proportion (qy_var 0 (qy_var 1 qy_nil)) (hF := runO_ok)))) qs_nil) (qs_cons (qs_setLc 3 [("part", 4)] sc__law_some_nest.nd (qi_range1 T.b_range (qa_cons (qe_add qe_int (qe_callO O__law_draw (hr.mono (by omega)) g__law_draw k__law_draw b__law_draw (qy_var 0 (qy_var 1 (qy_dat qe_int qy_nil))) (hF := runO_ok))) qa_nil)) (blkOk_by (N := ["script", "town", "left", "parts", "part"]) (sc := (defScope s__law_some_nest)) (by decide +kernel)) (fun _ _ _ _ _ => (qg_name 4 sc__law_some_nest.nd)) (fun _ _ _ _ _ => qts_nil) (fun _ _ _ _ _ => (qe_callO O__law_some_nest hr g__law_some_nest k__law_some_nest b__law_some_nest (qy_var 0 (qy_var 1 (qy_dat (qe_sub (qe_var 2) qe_int) qy_nil))) (hF := hG)))) (qs_one (qs_ret (qe_tup (qa_cons (qe_callO O__law_pick (hr.mono (by omega)) g__law_pick k__law_pick b__law_pick (qy_var 0 (qy_var 1 (qy_dat (qe_lst (qa_cons qe_str (qa_cons qe_str qa_nil))) qy_nil))) (hF := runO_ok)) (qa_cons (qe_callTy call_tuple_of d_tuple T.b_tuple (qa_cons (qe_var 3) qa_nil)) qa_nil)))))))⟩
theorem ok__law_some_nest (T : Txt K mg) (X__law_some_nest : Def K mg "_law_some_nest" s__law_some_nest ["script", "town", "left"]) (H__law_draw : Has P w K mg base "_law_draw" 3 ["script", "town", "bound"] (spO K F__law_draw 3)) (H__law_pick : Has P w K mg base "_law_pick" 4 ["script", "town", "some"] (spO K F__law_pick 3)) (H__law_some_proportion : Has P w K mg base "_law_some_proportion" 5 ["script", "town"] (spO K F__law_some_proportion 2)) (n : Nat) : Has P w K mg base "_law_some_nest" (n + 5) ["script", "town", "left"] (spO K (F__law_some_nest n) 3) := by
  obtain ⟨f__law_draw, fd__law_draw, O__law_draw, g__law_draw, k__law_draw, b__law_draw⟩ := H__law_draw
  obtain ⟨f__law_pick, fd__law_pick, O__law_pick, g__law_pick, k__law_pick, b__law_pick⟩ := H__law_pick
  obtain ⟨f__law_some_proportion, fd__law_some_proportion, O__law_some_proportion, g__law_some_proportion, k__law_some_proportion, b__law_some_proportion⟩ := H__law_some_proportion
  obtain ⟨ff, fd, FF, gg, bb⟩ := X__law_some_nest
  refine ⟨ff, fd, ?_, gg, FF.kp, bb⟩
  induction n with
  | zero => exact fnO0 (fun _ => rfl) rfl
  | succ n ih =>
    obtain ⟨W, hW, hw⟩ := w__law_some_nest T ff O__law_draw g__law_draw k__law_draw b__law_draw O__law_pick g__law_pick k__law_pick b__law_pick O__law_some_proportion g__law_some_proportion k__law_some_proportion b__law_some_proportion n (F__law_some_nest n) (F__law_some_nest_len n) ih gg FF.kp bb
    have o : FnOk P w K mg base CX0 (n + 5 + 1) ff fd ["script", "town", "left"] (spO K (runO [1] 3 5 (B__law_some_nest (F__law_some_nest n))) 3) := fnO (k := n + 5) FF sc__law_some_nest hw [1] hW
    have e : n + 1 + 5 = n + 5 + 1 := by omega
    rw [e]
    exact o
abbrev s__law_leaves : Stmt := topS 41
theorem sc__law_leaves : FnScope ["nest", "made", "part"] ["nest"] (defScope s__law_leaves) := ⟨rfl, rfl, rfl, by decide +kernel, rfl, by decide +kernel, by decide +kernel⟩
def B__law_leaves (F__law_leaves : List D → Option D) : MS := (sSeq (sIf (cNot (cV (eOp1 (isaV "str") (eOp2 dIx (eVar 0) (eC (.int 0)))))) (sRet (eApp mkLst (aCons (eVar 0) aNil))) sNil) (sSeq (sOwn 1 (oLst aNil)) (sSeq (sFor (iSeq (eOp2 dIx (eVar 0) (eC (.int 1)))) (gSet 2) (sDrop (eExtend 1 (eApp F__law_leaves (aCons (eVar 2) aNil))))) (sRet (eVar 1)))))
def F__law_leaves : Nat → List D → Option D
  | 0 => fun _ => none
  | n + 1 => runF 1 3 (B__law_leaves (F__law_leaves n))
theorem F__law_leaves_len : ∀ n ds r, F__law_leaves n ds = some r → ds.length = 1
  | 0, _, _, h => nomatch h
  | _ + 1, ds, r, h => runF_len ds r h
theorem w__law_leaves (T : Txt K mg) (ff : Addr) (n : Nat) (G : List D → Option D) (hG : ∀ ds r, G ds = some r → ds.length = 1) {fd : FuncData} (O__law_leaves : FnOk P w K mg base CX0 (n + 0) ff fd ["nest"] (spP K G 1)) (g__law_leaves : mg "_law_leaves" = some (.ref ff)) (k__law_leaves : PySem.W.keepIn K (.ref ff) = true) (b__law_leaves : Binds K fd ["nest"] []) : ∃ W : List Nat, ∀ (cdv : Value) (A : Around) (outer : List Env) (s : Shared) (H : Hp) (E : XK), Room (n + 0) (A.deeper (envOfC "_law_leaves" (defScope s__law_leaves) s.heap.objs.size ff cdv)) → QSs (cxOf CX0 P w K mg base ["nest", "made", "part"] "_law_leaves" (defScope s__law_leaves) ff cdv A outer s H E).nox W (defBody s__law_leaves) (B__law_leaves G) :=
  ⟨_, fun cdv A outer s H E hr => (qs_cons (qs_if (qt_not (qt_val (qe_isa (qe_ix (qe_var 0) qe_int) T.b_isinstance T.b_str))) (qs_one (qs_ret (qe_lst (qa_cons (qe_var 0) qa_nil)))) qs_nil) (qs_cons (qs_own 1 sc__law_leaves.nd (qo_lst qa_nil)) (qs_cons (qs_for (qi_seq (qe_ix (qe_var 0) qe_int)) (qg_name 2 sc__law_leaves.nd) (qs_one (qs_expr (qe_extend 1 (qe_call O__law_leaves hr g__law_leaves k__law_leaves b__law_leaves (qa_cons (qe_var 2) qa_nil) (hF := hG)))))) (qs_one (qs_ret (qe_var 1))))))⟩
theorem ok__law_leaves (T : Txt K mg) (X__law_leaves : Def K mg "_law_leaves" s__law_leaves ["nest"]) (n : Nat) : Has P w K mg base "_law_leaves" (n + 0) ["nest"] (spP K (F__law_leaves n) 1) := by
  obtain ⟨ff, fd, FF, gg, bb⟩ := X__law_leaves
  refine ⟨ff, fd, ?_, gg, FF.kp, bb⟩
  induction n with
  | zero => exact fnP0 (fun _ => rfl) rfl
  | succ n ih =>
    obtain ⟨W, hw⟩ := w__law_leaves T ff n (F__law_leaves n) (F__law_leaves_len n) ih gg FF.kp bb
    have o : FnOk P w K mg base CX0 (n + 0 + 1) ff fd ["nest"] (spP K (runF 1 3 (B__law_leaves (F__law_leaves n))) 1) := fnP (k := n + 0) FF sc__law_leaves hw
    have e : n + 1 + 0 = n + 0 + 1 := by omega
    rw [e]
    exact o
abbrev s__law_inner_beams : Stmt := topS 42
theorem sc__law_inner_beams : FnScope ["nest", "part"] ["nest"] (defScope s__law_inner_beams) := ⟨rfl, rfl, rfl, by decide +kernel, rfl, by decide +kernel, by decide +kernel⟩
def B__law_inner_beams (F__law_inner_beams : List D → Option D) : MS := (sSeq (sIf (cNot (cV (eOp1 (isaV "str") (eOp2 dIx (eVar 0) (eC (.int 0)))))) (sRet (eC (.int 0))) sNil) (sRet (eOp2 dAdd (eApp dSum (aCons (eLc [1] (iSeq (eOp2 dIx (eVar 0) (eC (.int 1)))) (gSet 1) cTrue (eApp F__law_inner_beams (aCons (eVar 1) aNil))) aNil)) (eIf (cV (eOp2 dEq (eOp2 dIx (eVar 0) (eC (.int 0))) (eC (.str "stack")))) (eOp2 dSub (eApp dLen (aCons (eOp2 dIx (eVar 0) (eC (.int 1))) aNil)) (eC (.int 1))) (eC (.int 0))))))
def F__law_inner_beams : Nat → List D → Option D
  | 0 => fun _ => none
  | n + 1 => runF 1 2 (B__law_inner_beams (F__law_inner_beams n))
theorem F__law_inner_beams_len : ∀ n ds r, F__law_inner_beams n ds = some r → ds.length = 1
  | 0, _, _, h => nomatch h
  | _ + 1, ds, r, h => runF_len ds r h
theorem w__law_inner_beams (T : Txt K mg) (ff : Addr) (n : Nat) (G : List D → Option D) (hG : ∀ ds r, G ds = some r → ds.length = 1) {fd : FuncData} (O__law_inner_beams : FnOk P w K mg base CX0 (n + 0) ff fd ["nest"] (spP K G 1)) (g__law_inner_beams : mg "_law_inner_beams" = some (.ref ff)) (k__law_inner_beams : PySem.W.keepIn K (.ref ff) = true) (b__law_inner_beams : Binds K fd ["nest"] []) : ∃ W : List Nat, ∀ (cdv : Value) (A : Around) (outer : List Env) (s : Shared) (H : Hp) (E : XK), Room (n + 0) (A.deeper (envOfC "_law_inner_beams" (defScope s__law_inner_beams) s.heap.objs.size ff cdv)) → QSs (cxOf CX0 P w K mg base ["nest", "part"] "_law_inner_beams" (defScope s__law_inner_beams) ff cdv A outer s H E).nox W (defBody s__law_inner_beams) (B__law_inner_beams G) :=
  ⟨_, fun cdv A outer s H E hr => (qs_cons (qs_if (qt_not (qt_val (qe_isa (qe_ix (qe_var 0) qe_int) T.b_isinstance T.b_str))) (qs_one (qs_ret qe_int)) qs_nil) (qs_one (qs_ret (qe_add (qe_callB (cr_sum rfl) d_sum T.b_sum (qa_cons (qe_lc [("part", 1)] sc__law_inner_beams.nd (qi_seq (qe_ix (qe_var 0) qe_int)) (blkOk_by (N := ["nest", "part"]) (sc := (defScope s__law_inner_beams)) (by decide +kernel)) (fun _ _ _ _ _ => (qg_name 1 sc__law_inner_beams.nd)) (fun _ _ _ _ _ => qts_nil) (fun _ _ _ _ _ => (qe_call O__law_inner_beams hr g__law_inner_beams k__law_inner_beams b__law_inner_beams (qa_cons (qe_var 1) qa_nil) (hF := hG)))) qa_nil)) (qe_if (qt_cmp (op_eqD hr.units) d_eq (qe_ix (qe_var 0) qe_int) qe_str) (qe_sub (qe_callB call_len_seq d_len T.b_len (qa_cons (qe_ix (qe_var 0) qe_int) qa_nil)) qe_int) qe_int)))))⟩
theorem ok__law_inner_beams (T : Txt K mg) (X__law_inner_beams : Def K mg "_law_inner_beams" s__law_inner_beams ["nest"]) (n : Nat) : Has P w K mg base "_law_inner_beams" (n + 0) ["nest"] (spP K (F__law_inner_beams n) 1) := by
  obtain ⟨ff, fd, FF, gg, bb⟩ := X__law_inner_beams
  refine ⟨ff, fd, ?_, gg, FF.kp, bb⟩
  induction n with
  | zero => exact fnP0 (fun _ => rfl) rfl
  | succ n ih =>
    obtain ⟨W, hw⟩ := w__law_inner_beams T ff n (F__law_inner_beams n) (F__law_inner_beams_len n) ih gg FF.kp bb
    have o : FnOk P w K mg base CX0 (n + 0 + 1) ff fd ["nest"] (spP K (runF 1 2 (B__law_inner_beams (F__law_inner_beams n))) 1) := fnP (k := n + 0) FF sc__law_inner_beams hw
    have e : n + 1 + 0 = n + 0 + 1 := by omega
    rw [e]
    exact o
abbrev s__law_good_nest : Stmt := topS 43
theorem sc__law_good_nest : FnScope ["script", "town", "nest"] ["script", "town"] (defScope s__law_good_nest) := ⟨rfl, rfl, rfl, by decide +kernel, rfl, by decide +kernel, by decide +kernel⟩
def B__law_good_nest : MS := (sSeq (sAsg (eAppO (F__law_some_nest 4) (yVar 0 (yVar 1 (yDat (eC (.int 3)) yNil)))) (gSet 2)) (sSeq (sIf (cOr (cV (eOp2 dGt (eApp dLen (aCons (eApp (F__law_leaves 4) (aCons (eVar 2) aNil)) aNil)) (eC (.int 8)))) (cV (eOp2 dGt (eApp (F__law_inner_beams 4) (aCons (eVar 2) aNil)) (eC (.int 4))))) (sAsg (eAppO (F__law_some_nest 4) (yVar 0 (yVar 1 (yDat (eC (.int 1)) yNil)))) (gSet 2)) sNil) (sRet (eVar 2))))
def F__law_good_nest : List Sl → Option (D × List Sl) := runO [1] 2 3 B__law_good_nest
theorem w__law_good_nest (T : Txt K mg) (ff : Addr) {f__law_inner_beams : Addr} {fd__law_inner_beams : FuncData} (O__law_inner_beams : FnOk P w K mg base CX0 4 f__law_inner_beams fd__law_inner_beams ["nest"] (spP K (F__law_inner_beams 4) 1)) (g__law_inner_beams : mg "_law_inner_beams" = some (.ref f__law_inner_beams)) (k__law_inner_beams : PySem.W.keepIn K (.ref f__law_inner_beams) = true) (b__law_inner_beams : Binds K fd__law_inner_beams ["nest"] []) {f__law_leaves : Addr} {fd__law_leaves : FuncData} (O__law_leaves : FnOk P w K mg base CX0 4 f__law_leaves fd__law_leaves ["nest"] (spP K (F__law_leaves 4) 1)) (g__law_leaves : mg "_law_leaves" = some (.ref f__law_leaves)) (k__law_leaves : PySem.W.keepIn K (.ref f__law_leaves) = true) (b__law_leaves : Binds K fd__law_leaves ["nest"] []) {f__law_some_nest : Addr} {fd__law_some_nest : FuncData} (O__law_some_nest : FnOk P w K mg base CX0 9 f__law_some_nest fd__law_some_nest ["script", "town", "left"] (spO K (F__law_some_nest 4) 3)) (g__law_some_nest : mg "_law_some_nest" = some (.ref f__law_some_nest)) (k__law_some_nest : PySem.W.keepIn K (.ref f__law_some_nest) = true) (b__law_some_nest : Binds K fd__law_some_nest ["script", "town", "left"] []) : ∃ W : List Nat, (∀ i ∈ ([1] : List Nat), i ∉ W) ∧ ∀ (cdv : Value) (A : Around) (outer : List Env) (s : Shared) (H : Hp) (E : XK), Room 9 (A.deeper (envOfC "_law_good_nest" (defScope s__law_good_nest) s.heap.objs.size ff cdv)) → QSs (cxOf CX0 P w K mg base ["script", "town", "nest"] "_law_good_nest" (defScope s__law_good_nest) ff cdv A outer s H E).nox W (defBody s__law_good_nest) B__law_good_nest :=
  ⟨_, by decide, fun cdv A outer s H E hr => (qs_cons (qs_set 2 sc__law_good_nest.nd (qe_callO O__law_some_nest (hr.mono (by decide)) g__law_some_nest k__law_some_nest b__law_some_nest (qy_var 0 (qy_var 1 (qy_dat qe_int qy_nil))) (hF := F__law_some_nest_len _))) (qs_cons (qs_if (qw_pt (qw_or (qt_cmp op_gt d_gt (qe_callB call_len_seq d_len T.b_len (qa_cons (qe_call O__law_leaves (hr.mono (by decide)) g__law_leaves k__law_leaves b__law_leaves (qa_cons (qe_var 2) qa_nil) (hF := F__law_leaves_len _)) qa_nil)) qe_int) (qw_or1 (qt_cmp op_gt d_gt (qe_call O__law_inner_beams (hr.mono (by decide)) g__law_inner_beams k__law_inner_beams b__law_inner_beams (qa_cons (qe_var 2) qa_nil) (hF := F__law_inner_beams_len _)) qe_int)))) (qs_one (qs_set 2 sc__law_good_nest.nd (qe_callO O__law_some_nest (hr.mono (by decide)) g__law_some_nest k__law_some_nest b__law_some_nest (qy_var 0 (qy_var 1 (qy_dat qe_int qy_nil))) (hF := F__law_some_nest_len _)))) qs_nil) (qs_one (qs_ret (qe_var 2)))))⟩
theorem ok__law_good_nest (T : Txt K mg) (X__law_good_nest : Def K mg "_law_good_nest" s__law_good_nest ["script", "town"]) (H__law_inner_beams : Has P w K mg base "_law_inner_beams" 4 ["nest"] (spP K (F__law_inner_beams 4) 1)) (H__law_leaves : Has P w K mg base "_law_leaves" 4 ["nest"] (spP K (F__law_leaves 4) 1)) (H__law_some_nest : Has P w K mg base "_law_some_nest" 9 ["script", "town", "left"] (spO K (F__law_some_nest 4) 3)) : Has P w K mg base "_law_good_nest" 10 ["script", "town"] (spO K F__law_good_nest 2) := by
  obtain ⟨f__law_inner_beams, fd__law_inner_beams, O__law_inner_beams, g__law_inner_beams, k__law_inner_beams, b__law_inner_beams⟩ := H__law_inner_beams
  obtain ⟨f__law_leaves, fd__law_leaves, O__law_leaves, g__law_leaves, k__law_leaves, b__law_leaves⟩ := H__law_leaves
  obtain ⟨f__law_some_nest, fd__law_some_nest, O__law_some_nest, g__law_some_nest, k__law_some_nest, b__law_some_nest⟩ := H__law_some_nest
  obtain ⟨ff, fd, FF, gg, bb⟩ := X__law_good_nest
  obtain ⟨W, hW, hw⟩ := w__law_good_nest T ff O__law_inner_beams g__law_inner_beams k__law_inner_beams b__law_inner_beams O__law_leaves g__law_leaves k__law_leaves b__law_leaves O__law_some_nest g__law_some_nest k__law_some_nest b__law_some_nest
  have o : FnOk P w K mg base CX0 10 ff fd ["script", "town"] (spO K (runO [1] 2 3 B__law_good_nest) 2) := fnO (k := 9) FF sc__law_good_nest hw [1] hW
  exact ⟨ff, fd, o, gg, FF.kp, bb⟩
abbrev s__law_quarter : Stmt := topS 44
theorem sc__law_quarter : FnScope ["nest", "part"] ["nest"] (defScope s__law_quarter) := ⟨rfl, rfl, rfl, by decide +kernel, rfl, by decide +kernel, by decide +kernel⟩
def B__law_quarter (F__law_quarter : List D → Option D) : MS := (sSeq (sIf (cNot (cV (eOp1 (isaV "str") (eOp2 dIx (eVar 0) (eC (.int 0)))))) (sRet (eApp mkTup (aCons (eOp2 dIx (eVar 0) (eC (.int 1))) (aCons (eOp2 dIx (eVar 0) (eC (.int 0))) aNil)))) sNil) (sRet (eApp mkTup (aCons (eIf (cV (eOp2 dEq (eOp2 dIx (eVar 0) (eC (.int 0))) (eC (.str "side")))) (eC (.str "stack")) (eC (.str "side"))) (aCons (eApp dTuple (aCons (eLc [1] (iSeq (eOp2 dIx (eVar 0) (eC (.int 1)))) (gSet 1) cTrue (eApp F__law_quarter (aCons (eVar 1) aNil))) aNil)) aNil)))))
def F__law_quarter : Nat → List D → Option D
  | 0 => fun _ => none
  | n + 1 => runF 1 2 (B__law_quarter (F__law_quarter n))
theorem F__law_quarter_len : ∀ n ds r, F__law_quarter n ds = some r → ds.length = 1
  | 0, _, _, h => nomatch h
  | _ + 1, ds, r, h => runF_len ds r h
theorem w__law_quarter (T : Txt K mg) (ff : Addr) (n : Nat) (G : List D → Option D) (hG : ∀ ds r, G ds = some r → ds.length = 1) {fd : FuncData} (O__law_quarter : FnOk P w K mg base CX0 (n + 0) ff fd ["nest"] (spP K G 1)) (g__law_quarter : mg "_law_quarter" = some (.ref ff)) (k__law_quarter : PySem.W.keepIn K (.ref ff) = true) (b__law_quarter : Binds K fd ["nest"] []) : ∃ W : List Nat, ∀ (cdv : Value) (A : Around) (outer : List Env) (s : Shared) (H : Hp) (E : XK), Room (n + 0) (A.deeper (envOfC "_law_quarter" (defScope s__law_quarter) s.heap.objs.size ff cdv)) → QSs (cxOf CX0 P w K mg base ["nest", "part"] "_law_quarter" (defScope s__law_quarter) ff cdv A outer s H E).nox W (defBody s__law_quarter) (B__law_quarter G) :=
  ⟨_, fun cdv A outer s H E hr => (qs_cons (qs_if (qt_not (qt_val (qe_isa (qe_ix (qe_var 0) qe_int) T.b_isinstance T.b_str))) (qs_one (qs_ret (qe_tup (qa_cons (qe_ix (qe_var 0) qe_int) (qa_cons (qe_ix (qe_var 0) qe_int) qa_nil))))) qs_nil) (qs_one (qs_ret (qe_tup (qa_cons (qe_if (qt_cmp (op_eqD hr.units) d_eq (qe_ix (qe_var 0) qe_int) qe_str) qe_str qe_str) (qa_cons (qe_callTy call_tuple_of d_tuple T.b_tuple (qa_cons (qe_lc [("part", 1)] sc__law_quarter.nd (qi_seq (qe_ix (qe_var 0) qe_int)) (blkOk_by (N := ["nest", "part"]) (sc := (defScope s__law_quarter)) (by decide +kernel)) (fun _ _ _ _ _ => (qg_name 1 sc__law_quarter.nd)) (fun _ _ _ _ _ => qts_nil) (fun _ _ _ _ _ => (qe_call O__law_quarter hr g__law_quarter k__law_quarter b__law_quarter (qa_cons (qe_var 1) qa_nil) (hF := hG)))) qa_nil)) qa_nil))))))⟩
theorem ok__law_quarter (T : Txt K mg) (X__law_quarter : Def K mg "_law_quarter" s__law_quarter ["nest"]) (n : Nat) : Has P w K mg base "_law_quarter" (n + 0) ["nest"] (spP K (F__law_quarter n) 1) := by
  obtain ⟨ff, fd, FF, gg, bb⟩ := X__law_quarter
  refine ⟨ff, fd, ?_, gg, FF.kp, bb⟩
  induction n with
  | zero => exact fnP0 (fun _ => rfl) rfl
  | succ n ih =>
    obtain ⟨W, hw⟩ := w__law_quarter T ff n (F__law_quarter n) (F__law_quarter_len n) ih gg FF.kp bb
    have o : FnOk P w K mg base CX0 (n + 0 + 1) ff fd ["nest"] (spP K (runF 1 2 (B__law_quarter (F__law_quarter n))) 1) := fnP (k := n + 0) FF sc__law_quarter hw
    have e : n + 1 + 0 = n + 0 + 1 := by omega
    rw [e]
    exact o
abbrev s_law : Stmt := topS 45
theorem sc_law : FnScope ["script", "town", "nest", "got", "top", "bottom", "one", "other", "due", "part"] ["script"] (defScope s_law) := ⟨rfl, rfl, rfl, by decide +kernel, rfl, by decide +kernel, by decide +kernel⟩
def B_law : MS := (sSeq (sOwn 1 (oLst aNil)) (sSeq (sAsg (eAppO F__law_good_nest (yVar 0 (yVar 1 yNil))) (gSet 2)) (sSeq (sAsg (eApp F_quarter (aCons (eVar 2) aNil)) (gSet 3)) (sSeq (sIf (cOr (cV (eOp2 dNe (eVar 3) (eApp (F__law_quarter 4) (aCons (eVar 2) aNil)))) (cOr (cV (eOp2 dIsNot (eApp F_is_nest (aCons (eVar 3) aNil)) (eC (.bool true)))) (cV (eOp2 dNe (eApp F_quarter (aCons (eVar 3) aNil)) (eVar 2))))) (sRet (eC (.bool false))) sNil) (sSeq (sAsg (eApp F_nest_proportion (aCons (eVar 2) aNil)) (gTup [(gSet 4), (gSet 5)])) (sSeq (sIf (cV (eOp2 dNe (eApp F_nest_proportion (aCons (eVar 3) aNil)) (eApp mkTup (aCons (eVar 5) (aCons (eVar 4) aNil))))) (sRet (eC (.bool false))) sNil) (sSeq (sFor (iApp zipD (aCons (eApp F_drawn (aCons (eVar 2) aNil)) (aCons (eApp F_drawn (aCons (eVar 3) aNil)) aNil))) (gTup [(gSet 6), (gSet 7)]) (sSeq (sAsg (eLc [9] (iSeq (eApp mkTup (aCons (eOp2 dIx (eVar 6) (eC (.int 1))) (aCons (eOp2 dIx (eVar 6) (eC (.int 0))) (aCons (eOp2 dIx (eVar 6) (eC (.int 3))) (aCons (eOp2 dIx (eVar 6) (eC (.int 2))) aNil)))))) (gSet 9) cTrue (eApp F__law_by (aCons (eVar 9) (aCons (eApp mkTup (aCons (eVar 5) (aCons (eVar 4) aNil))) aNil)))) (gSet 8)) (sIf (cV (eOp2 dNe (eApp dList (aCons (eVar 7) aNil)) (eVar 8))) (sRet (eC (.bool false))) sNil))) (sRet (eC (.bool true))))))))))
def F_law : List Sl → Option (D × List Sl) := runO [] 1 10 B_law
theorem w_law (T : Txt K mg) (ff : Addr) {f__law_by : Addr} {fd__law_by : FuncData} (O__law_by : FnOk P w K mg base CX0 3 f__law_by fd__law_by ["one", "other"] (spP K F__law_by 2)) (g__law_by : mg "_law_by" = some (.ref f__law_by)) (k__law_by : PySem.W.keepIn K (.ref f__law_by) = true) (b__law_by : Binds K fd__law_by ["one", "other"] []) {f__law_good_nest : Addr} {fd__law_good_nest : FuncData} (O__law_good_nest : FnOk P w K mg base CX0 10 f__law_good_nest fd__law_good_nest ["script", "town"] (spO K F__law_good_nest 2)) (g__law_good_nest : mg "_law_good_nest" = some (.ref f__law_good_nest)) (k__law_good_nest : PySem.W.keepIn K (.ref f__law_good_nest) = true) (b__law_good_nest : Binds K fd__law_good_nest ["script", "town"] []) {f__law_quarter : Addr} {fd__law_quarter : FuncData} (O__law_quarter : FnOk P w K mg base CX0 4 f__law_quarter fd__law_quarter ["nest"] (spP K (F__law_quarter 4) 1)) (g__law_quarter : mg "_law_quarter" = some (.ref f__law_quarter)) (k__law_quarter : PySem.W.keepIn K (.ref f__law_quarter) = true) (b__law_quarter : Binds K fd__law_quarter ["nest"] []) {f_drawn : Addr} {fd_drawn : FuncData} (O_drawn : FnOk P w K mg base CX0 13 f_drawn fd_drawn ["nest"] (spP K F_drawn 1)) (g_drawn : mg "drawn" = some (.ref f_drawn)) (k_drawn : PySem.W.keepIn K (.ref f_drawn) = true) (b_drawn : Binds K fd_drawn ["nest"] []) {f_is_nest : Addr} {fd_is_nest : FuncData} (O_is_nest : FnOk P w K mg base CX0 9 f_is_nest fd_is_nest ["thing"] (spP K F_is_nest 1)) (g_is_nest : mg "is_nest" = some (.ref f_is_nest)) (k_is_nest : PySem.W.keepIn K (.ref f_is_nest) = true) (b_is_nest : Binds K fd_is_nest ["thing"] []) {f_nest_proportion : Addr} {fd_nest_proportion : FuncData} (O_nest_proportion : FnOk P w K mg base CX0 10 f_nest_proportion fd_nest_proportion ["nest"] (spP K F_nest_proportion 1)) (g_nest_proportion : mg "nest_proportion" = some (.ref f_nest_proportion)) (k_nest_proportion : PySem.W.keepIn K (.ref f_nest_proportion) = true) (b_nest_proportion : Binds K fd_nest_proportion ["nest"] []) {f_quarter : Addr} {fd_quarter : FuncData} (O_quarter : FnOk P w K mg base CX0 10 f_quarter fd_quarter ["nest"] (spP K F_quarter 1)) (g_quarter : mg "quarter" = some (.ref f_quarter)) (k_quarter : PySem.W.keepIn K (.ref f_quarter) = true) (b_quarter : Binds K fd_quarter ["nest"] []) : ∃ W : List Nat, (∀ i ∈ ([] : List Nat), i ∉ W) ∧ ∀ (cdv : Value) (A : Around) (outer : List Env) (s : Shared) (H : Hp) (E : XK), Room 13 (A.deeper (envOfC "law" (defScope s_law) s.heap.objs.size ff cdv)) → QSs (cxOf CX0 P w K mg base ["script", "town", "nest", "got", "top", "bottom", "one", "other", "due", "part"] "law" (defScope s_law) ff cdv A outer s H E).nox W (defBody s_law) B_law :=
  ⟨_, by decide, fun cdv A outer s H E hr => (qs_cons (qs_own 1 sc_law.nd (qo_lst qa_nil)) (qs_cons (qs_set 2 sc_law.nd (qe_callO O__law_good_nest (hr.mono (by decide)) g__law_good_nest k__law_good_nest b__law_good_nest (qy_var 0 (qy_var 1 qy_nil)) (hF := runO_ok))) (qs_cons (qs_set 3 sc_law.nd (qe_call O_quarter (hr.mono (by decide)) g_quarter k_quarter b_quarter (qa_cons (qe_var 2) qa_nil))) (qs_cons (qs_if (qw_pt (qw_or (qt_cmp (op_neD hr.units) d_ne (qe_var 3) (qe_call O__law_quarter (hr.mono (by decide)) g__law_quarter k__law_quarter b__law_quarter (qa_cons (qe_var 2) qa_nil) (hF := F__law_quarter_len _))) (qw_or (qt_cmp op_isNotA d_isNot (qe_call O_is_nest (hr.mono (by decide)) g_is_nest k_is_nest b_is_nest (qa_cons (qe_var 3) qa_nil)) qe_bl) (qw_or1 (qt_cmp (op_neD hr.units) d_ne (qe_call O_quarter (hr.mono (by decide)) g_quarter k_quarter b_quarter (qa_cons (qe_var 3) qa_nil)) (qe_var 2)))))) (qs_one (qs_ret qe_bl)) qs_nil) (qs_cons (qs_asg (qe_call O_nest_proportion (hr.mono (by decide)) g_nest_proportion k_nest_proportion b_nest_proportion (qa_cons (qe_var 2) qa_nil)) (qg_tup (qgs_cons (qg_name 4 sc_law.nd) (qgs_cons (qg_name 5 sc_law.nd) qgs_nil)))) (qs_cons (qs_if (qt_cmp (op_neD hr.units) d_ne (qe_call O_nest_proportion (hr.mono (by decide)) g_nest_proportion k_nest_proportion b_nest_proportion (qa_cons (qe_var 3) qa_nil)) (qe_tup (qa_cons (qe_var 5) (qa_cons (qe_var 4) qa_nil)))) (qs_one (qs_ret qe_bl)) qs_nil) (qs_cons (qs_for (qi_zip T.b_zip (qa_cons (qe_call O_drawn (hr.mono (by decide)) g_drawn k_drawn b_drawn (qa_cons (qe_var 2) qa_nil)) (qa_cons (qe_call O_drawn (hr.mono (by decide)) g_drawn k_drawn b_drawn (qa_cons (qe_var 3) qa_nil)) qa_nil))) (qg_tup (qgs_cons (qg_name 6 sc_law.nd) (qgs_cons (qg_name 7 sc_law.nd) qgs_nil))) (qs_cons (qs_setLc 8 [("part", 9)] sc_law.nd (qi_seq (qe_tup (qa_cons (qe_ix (qe_var 6) qe_int) (qa_cons (qe_ix (qe_var 6) qe_int) (qa_cons (qe_ix (qe_var 6) qe_int) (qa_cons (qe_ix (qe_var 6) qe_int) qa_nil)))))) (blkOk_by (N := ["script", "town", "nest", "got", "top", "bottom", "one", "other", "due", "part"]) (sc := (defScope s_law)) (by decide +kernel)) (fun _ _ _ _ _ => (qg_name 9 sc_law.nd)) (fun _ _ _ _ _ => qts_nil) (fun _ _ _ _ _ => (qe_call O__law_by (hr.mono (by decide)) g__law_by k__law_by b__law_by (qa_cons (qe_var 9) (qa_cons (qe_tup (qa_cons (qe_var 5) (qa_cons (qe_var 4) qa_nil))) qa_nil))))) (qs_one (qs_if (qt_cmp (op_neD hr.units) d_ne (qe_callTy call_list_of d_list T.b_list (qa_cons (qe_var 7) qa_nil)) (qe_var 8)) (qs_one (qs_ret qe_bl)) qs_nil)))) (qs_one (qs_ret qe_bl)))))))))⟩
theorem ok_law (T : Txt K mg) {ff : Addr} {fd : FuncData} (FF : Fun K "law" "law" s_law ff fd) (H__law_by : Has P w K mg base "_law_by" 3 ["one", "other"] (spP K F__law_by 2)) (H__law_good_nest : Has P w K mg base "_law_good_nest" 10 ["script", "town"] (spO K F__law_good_nest 2)) (H__law_quarter : Has P w K mg base "_law_quarter" 4 ["nest"] (spP K (F__law_quarter 4) 1)) (H_drawn : Has P w K mg base "drawn" 13 ["nest"] (spP K F_drawn 1)) (H_is_nest : Has P w K mg base "is_nest" 9 ["thing"] (spP K F_is_nest 1)) (H_nest_proportion : Has P w K mg base "nest_proportion" 10 ["nest"] (spP K F_nest_proportion 1)) (H_quarter : Has P w K mg base "quarter" 10 ["nest"] (spP K F_quarter 1)) : FnOk P w K mg base CX0 14 ff fd ["script"] (spO K F_law 1) := by
  obtain ⟨f__law_by, fd__law_by, O__law_by, g__law_by, k__law_by, b__law_by⟩ := H__law_by
  obtain ⟨f__law_good_nest, fd__law_good_nest, O__law_good_nest, g__law_good_nest, k__law_good_nest, b__law_good_nest⟩ := H__law_good_nest
  obtain ⟨f__law_quarter, fd__law_quarter, O__law_quarter, g__law_quarter, k__law_quarter, b__law_quarter⟩ := H__law_quarter
  obtain ⟨f_drawn, fd_drawn, O_drawn, g_drawn, k_drawn, b_drawn⟩ := H_drawn
  obtain ⟨f_is_nest, fd_is_nest, O_is_nest, g_is_nest, k_is_nest, b_is_nest⟩ := H_is_nest
  obtain ⟨f_nest_proportion, fd_nest_proportion, O_nest_proportion, g_nest_proportion, k_nest_proportion, b_nest_proportion⟩ := H_nest_proportion
  obtain ⟨f_quarter, fd_quarter, O_quarter, g_quarter, k_quarter, b_quarter⟩ := H_quarter
  obtain ⟨W, hW, hw⟩ := w_law T ff O__law_by g__law_by k__law_by b__law_by O__law_good_nest g__law_good_nest k__law_good_nest b__law_good_nest O__law_quarter g__law_quarter k__law_quarter b__law_quarter O_drawn g_drawn k_drawn b_drawn O_is_nest g_is_nest k_is_nest b_is_nest O_nest_proportion g_nest_proportion k_nest_proportion b_nest_proportion O_quarter g_quarter k_quarter b_quarter
  have o : FnOk P w K mg base CX0 14 ff fd ["script"] (spO K (runO [] 1 10 B_law) 1) := fnO (k := 13) FF sc_law hw [] hW
  exact o
end
end QP
set_option Elab.async false
set_option linter.all false
set_option maxRecDepth 100000
set_option maxHeartbeats 1000000
namespace QP
open PySem PySem.Spec PyProof.Rows L2 QL

/-! ### fractions -/
def fr (x : Rat) : D := .tuple [.int x.num, .int x.den]
/-- both parts below 2 ^ n -/
def Sz (n : Nat) (x : Rat) : Prop := x.num.natAbs < 2 ^ n ∧ x.den < 2 ^ n
theorem intMul_ok {i j : Int} {a b : Nat} (ha : i.natAbs < 2 ^ a) (hb : j.natAbs < 2 ^ b) (h : a + b ≤ 100000000) : IntMulOk i j := by
  have bits : ∀ (x : Int) (n : Nat), x.natAbs < 2 ^ n → Builtin.Int.intBits x ≤ n := fun x n hx => by
    unfold Builtin.Int.intBits
    split
    · exact Nat.zero_le _
    · rename_i hz
      have hp : x.natAbs ≠ 0 := by
        intro z
        apply hz
        have : x = 0 := by omega
        simp [this]
      have := (Nat.log2_lt hp).mpr hx
      omega
  have h1 := bits i a ha
  have h2 := bits j b hb
  have e : bitsLine = 134217728 := by decide
  unfold IntMulOk
  intro z
  rw [Bool.and_eq_true] at z
  have z2 := z.2
  unfold Builtin.Int.intTooBig at z2
  have z3 := of_decide_eq_true z2
  rw [e] at z3
  omega
theorem pylong_ok {x y : Int} {n : Nat} (h : y.natAbs < 2 ^ n) (hn : n ≤ 9000) : Builtin.divisionGoesByPylong x y = false := by
  refine PyProof.noPylong_of_log2 ?_
  rcases Nat.eq_zero_or_pos y.natAbs with h0 | hp
  · rw [h0]; decide
  · have := (Nat.log2_lt (Nat.ne_of_gt hp)).mpr (Nat.lt_of_lt_of_le h (Nat.pow_le_pow_right (by decide) hn))
    exact this
/-- simplification of the mirrors -/
theorem atI_0 {α : Type} (a : α) (l : List α) : atI (a :: l) 0 = some a := atI_nat (j := 0) rfl
theorem atI_1 {α : Type} (a b : α) (l : List α) : atI (a :: b :: l) 1 = some b := atI_nat (j := 1) rfl
theorem atI_2 {α : Type} (a b c : α) (l : List α) : atI (a :: b :: c :: l) 2 = some c := atI_nat (j := 2) rfl
theorem atI_3 {α : Type} (a b c d : α) (l : List α) : atI (a :: b :: c :: d :: l) 3 = some d := atI_nat (j := 3) rfl

/-! ### the greatest common number -/
theorem common_loop : ∀ (n a b : Nat), b < n → whileM (cV (eOp2 dGt (eVar 1) (eC (.int 0)))) (sPar2 0 1 (xDat (eVar 1) (xDat (eOp2 dMod (eVar 0) (eVar 1)) xNil))) n [.dat (.int a), .dat (.int b)] = some (.nx, [.dat (.int (Nat.gcd a b)), .dat (.int 0)])
  | 0, a, b, h => absurd h (Nat.not_lt_zero _)
  | n + 1, a, b, h => by
    unfold whileM
    by_cases hb : b = 0
    · subst hb
      simp [cV, eOp2, eVar, eC, dGt, asB]
    · have hp : 0 < b := Nat.pos_of_ne_zero hb
      have e1 : ((a % b : Nat) : Int) = (a : Int) % b := by simp
      have ih := common_loop n b (a % b) (by have := Nat.mod_lt a hp; omega)
      have e2 : Nat.gcd b (a % b) = Nat.gcd a b := by
        rw [Nat.gcd_comm b, ← Nat.gcd_rec, Nat.gcd_comm]
      rw [e2, e1] at ih
      simp [cV, eOp2, eVar, eC, dGt, asB, hp, hb, sPar2, xDat, xNil, dMod, noScr]
      rw [Int.fmod_eq_emod_of_nonneg _ (by omega)]
      exact ih
theorem F_common_eq (a b : Nat) : F_common [.int a, .int b] = some (.int (Nat.gcd a b)) := by
  have h := common_loop (b + 1) a b (Nat.lt_succ_self _)
  simp [F_common, runF, B_common, sSeq, sWhile, fu_common, slotI, h, sRet, eVar, endOf]
/-! ### a fraction in least terms -/
theorem gcd_pos {a b : Nat} (h : b ≠ 0) : 0 < Nat.gcd a b := Nat.gcd_pos_of_pos_right _ (Nat.pos_of_ne_zero h)
theorem abs_nat (a : Int) : (if a < 0 then -a else a) = (a.natAbs : Int) := by
  split <;> omega
theorem made_pos {n : Nat} (a : Int) (b : Nat) (hb : b ≠ 0) (hs : b < 2 ^ n) (hn : n ≤ 9000) : F_made_of [.int a, .int b] = some (fr (Rat.normalize a b hb)) := by
  have hg : 0 < Nat.gcd a.natAbs b := gcd_pos hb
  have hgb : Nat.gcd a.natAbs b < 2 ^ n := Nat.lt_of_le_of_lt (Nat.gcd_le_right _ (Nat.pos_of_ne_zero hb)) hs
  have hp : ∀ x : Int, Builtin.divisionGoesByPylong x (Nat.gcd a.natAbs b : Nat) = false := fun x => pylong_ok (n := n) (by simpa using hgb) hn
  have h0 : ¬ ((b : Int) < 0) := by omega
  have hgz : ¬ ((Nat.gcd a.natAbs b : Nat) : Int) = 0 := by omega
  have hgz2 : ¬ Nat.gcd a.natAbs b = 0 := by omega
  have hab : (if a < 0 then -a else a) = (a.natAbs : Int) := abs_nat a
  have e1 : Int.fdiv a (Nat.gcd a.natAbs b : Nat) = a / (Nat.gcd a.natAbs b : Nat) := Int.fdiv_eq_ediv_of_nonneg _ (by omega)
  have e2 : Int.fdiv b (Nat.gcd a.natAbs b : Nat) = ((b / Nat.gcd a.natAbs b : Nat) : Int) := by
    rw [Int.fdiv_eq_ediv_of_nonneg _ (by omega)]
    rfl
  have hF := F_common_eq a.natAbs b
  unfold F_made_of runF B_made_of
  simp only [sSeq, sIf, cV, eOp2, eVar, eC, dLt, asB, List.map_cons, List.map_nil, List.length_cons, List.length_nil, sNil, sAsg, eApp, aCons, aNil, dAbs, gSet, sRet, mkTup, dDiv, endOf, List.replicate, List.cons_append, List.nil_append, List.getElem?_cons_zero, List.getElem?_cons_succ, Option.bind_some, Option.map_some, List.set_cons_zero, List.set_cons_succ, hab, hF, decide_eq_false h0, Bool.false_eq_true, if_false, ne_eq, hgz, not_false_eq_true, hp, and_self, if_true, e1, e2, Nat.reduceAdd, Nat.reduceSub, Nat.reduceLeDiff]
  rw [Rat.normalize_eq]
  rfl
end QP
set_option Elab.async false
set_option linter.all false
set_option maxRecDepth 100000
set_option maxHeartbeats 1000000
namespace QP
open PySem PySem.Spec PyProof.Rows L2 QL

theorem made_eq {n : Nat} (a b : Int) (hb : b ≠ 0) (hs : b.natAbs < 2 ^ n) (hn : n ≤ 9000) : F_made_of [.int a, .int b] = some (fr (Rat.divInt a b)) := by
  by_cases h : b < 0
  · have hb' : b.natAbs ≠ 0 := by omega
    have key := made_pos (n := n) (-a) b.natAbs hb' hs hn
    have e1 : (0 : Int) - a = -a := by omega
    have e2 : (0 : Int) - b = (b.natAbs : Int) := by omega
    have e3 : Rat.divInt a b = Rat.normalize (-a) b.natAbs hb' := by
      have : b = -((b.natAbs : Nat) : Int) := by omega
      conv => lhs; rw [this]
      rw [Rat.divInt_neg', Rat.divInt_ofNat, Rat.normalize_eq_mkRat]
    rw [e3, ← key]
    have h0 : ¬ ((b.natAbs : Int) < 0) := by omega
    unfold F_made_of runF B_made_of
    simp only [sSeq, sIf, sNil, sAsg, sRet, sDrop, cV, cAnd, cOr, cNot, cTrue, eOp2, eOp1, eVar, eC, eApp, aCons, aNil, eIf, eAnd, eOr, eNot, eChain, eNeg, asB, dLt, dLe, dGt, dGe, dSub, dIx, dAbs, dMin, dMax, dLen, dList, dTuple, mkTup, mkLst, gSet, QL.gTup, gTupF, unTup, sPar2, xDat, xOwn, xNil, noScr, sOwn, oLst, iSeq, asSeq, iApp, endOf, List.map_cons, List.map_nil, List.length_cons, List.length_nil, List.length_set, List.replicate, List.cons_append, List.nil_append, List.getElem?_cons_zero, List.getElem?_cons_succ, List.getElem?_nil, Option.bind_some, Option.bind_none, Option.map_some, Option.map_none, List.set_cons_zero, List.set_cons_succ, List.set_nil, Bool.false_eq_true, if_false, if_true, ne_eq, not_false_eq_true, not_true_eq_false, and_self, and_true, true_and, Bool.not_true, Bool.not_false, Bool.and_true, Bool.true_and, Nat.reduceAdd, Nat.reduceSub, Nat.reduceLeDiff, Nat.reduceLT, Nat.reduceEqDiff, Nat.lt_irrefl, decide_true, decide_false, atI_0, atI_1, atI_2, atI_3, isaV, Option.getD_some, ownL, scrAt, decide_eq_true h, decide_eq_false h0, e1, e2]
  · have hb' : b.natAbs ≠ 0 := by omega
    have e : b = (b.natAbs : Int) := by omega
    have key := made_pos (n := n) a b.natAbs hb' hs hn
    rw [← e] at key
    rw [key, Rat.normalize_eq_mkRat]
    congr 2
    conv => rhs; rw [e]
    rfl
theorem den_cast (x : Rat) : ((x.den : Int)).natAbs = x.den := by omega
theorem Sz.mono {n m : Nat} {x : Rat} (h : Sz n x) (hm : n ≤ m) : Sz m x :=
  ⟨Nat.lt_of_lt_of_le h.1 (Nat.pow_le_pow_right (by decide) hm), Nat.lt_of_lt_of_le h.2 (Nat.pow_le_pow_right (by decide) hm)⟩
theorem pow_mul_lt {a b n m : Nat} (ha : a < 2 ^ n) (hb : b < 2 ^ m) : a * b < 2 ^ (n + m) := by
  rw [Nat.pow_add]
  exact Nat.mul_lt_mul'' ha hb
/-- a fraction of small parts is small -/
theorem Sz.normalize {n : Nat} {a : Int} {b : Nat} (hb : b ≠ 0) (h1 : a.natAbs < 2 ^ n) (h2 : b < 2 ^ n) : Sz n (Rat.normalize a b hb) := by
  rw [Rat.normalize_eq]
  refine ⟨?_, ?_⟩
  · show (a / _).natAbs < _
    refine Nat.lt_of_le_of_lt ?_ h1
    rw [Int.natAbs_ediv_of_dvd (Int.ofNat_dvd_left.mpr (Nat.gcd_dvd_left _ _))]
    exact Nat.div_le_self _ _
  · exact Nat.lt_of_le_of_lt (Nat.div_le_self _ _) h2
theorem Sz.add {n m : Nat} {x y : Rat} (hx : Sz n x) (hy : Sz m y) : Sz (n + m + 1) (x + y) := by
  rw [Rat.add_def]
  refine Sz.normalize _ ?_ ?_
  · have a1 := pow_mul_lt hx.1 hy.2
    have a2 := pow_mul_lt hy.1 hx.2
    rw [Nat.add_comm m n] at a2
    refine Nat.lt_of_le_of_lt (Int.natAbs_add_le _ _) ?_
    rw [Int.natAbs_mul, Int.natAbs_mul, Int.natAbs_natCast, Int.natAbs_natCast, Nat.pow_succ]
    omega
  · have := pow_mul_lt hx.2 hy.2
    rw [Nat.pow_succ]
    omega
theorem Sz.mul {n m : Nat} {x y : Rat} (hx : Sz n x) (hy : Sz m y) : Sz (n + m) (x * y) := by
  rw [Rat.mul_def]
  refine Sz.normalize _ ?_ (pow_mul_lt hx.2 hy.2)
  rw [Int.natAbs_mul]
  exact pow_mul_lt hx.1 hy.1
theorem Sz.neg {n : Nat} {x : Rat} (hx : Sz n x) : Sz n (-x) := ⟨by rw [Rat.neg_num, Int.natAbs_neg]; exact hx.1, hx.2⟩
theorem Sz.sub {n m : Nat} {x y : Rat} (hx : Sz n x) (hy : Sz m y) : Sz (n + m + 1) (x - y) := by
  rw [Rat.sub_eq_add_neg]
  exact hx.add hy.neg
theorem F_plus_eq {n m : Nat} {x y : Rat} (hx : Sz n x) (hy : Sz m y) (h : n + m ≤ 9000) : F_plus [fr x, fr y] = some (fr (x + y)) := by
  have i1 : IntMulOk x.num y.den := intMul_ok (a := n) (b := m) hx.1 (by rw [den_cast]; exact hy.2) (by omega)
  have i2 : IntMulOk y.num x.den := intMul_ok (a := m) (b := n) hy.1 (by rw [den_cast]; exact hx.2) (by omega)
  have i3 : IntMulOk x.den y.den := intMul_ok (a := n) (b := m) (by rw [den_cast]; exact hx.2) (by rw [den_cast]; exact hy.2) (by omega)
  have hb : x.den * y.den ≠ 0 := Nat.mul_ne_zero x.den_nz y.den_nz
  have key := made_pos (n := n + m) (x.num * y.den + y.num * x.den) (x.den * y.den) hb (pow_mul_lt hx.2 hy.2) h
  have e : ((x.den * y.den : Nat) : Int) = (x.den : Int) * y.den := by simp
  rw [e] at key
  unfold F_plus runF B_plus fr
  simp only [sSeq, sIf, sNil, sAsg, sRet, sDrop, cV, cAnd, cOr, cNot, cTrue, eOp2, eOp1, eVar, eC, eApp, aCons, aNil, eIf, eAnd, eOr, eNot, eChain, eNeg, asB, dLt, dLe, dGt, dGe, dSub, dIx, dAbs, dMin, dMax, dLen, dList, dTuple, mkTup, mkLst, gSet, QL.gTup, gTupF, unTup, sPar2, xDat, xOwn, xNil, noScr, sOwn, oLst, iSeq, asSeq, iApp, endOf, List.map_cons, List.map_nil, List.length_cons, List.length_nil, List.length_set, List.replicate, List.cons_append, List.nil_append, List.getElem?_cons_zero, List.getElem?_cons_succ, List.getElem?_nil, Option.bind_some, Option.bind_none, Option.map_some, Option.map_none, List.set_cons_zero, List.set_cons_succ, List.set_nil, Bool.false_eq_true, if_false, if_true, ne_eq, not_false_eq_true, not_true_eq_false, and_self, and_true, true_and, Bool.not_true, Bool.not_false, Bool.and_true, Bool.true_and, Nat.reduceAdd, Nat.reduceSub, Nat.reduceLeDiff, Nat.reduceLT, Nat.reduceEqDiff, Nat.lt_irrefl, decide_true, decide_false, atI_0, atI_1, atI_2, atI_3, isaV, Option.getD_some, ownL, scrAt, dMul, dAdd, i1, i2, i3, key]
  rw [Rat.add_def]
  rfl
theorem F_times_eq {n m : Nat} {x y : Rat} (hx : Sz n x) (hy : Sz m y) (h : n + m ≤ 9000) : F_times [fr x, fr y] = some (fr (x * y)) := by
  have i1 : IntMulOk x.num y.num := intMul_ok (a := n) (b := m) hx.1 hy.1 (by omega)
  have i3 : IntMulOk x.den y.den := intMul_ok (a := n) (b := m) (by rw [den_cast]; exact hx.2) (by rw [den_cast]; exact hy.2) (by omega)
  have hb : x.den * y.den ≠ 0 := Nat.mul_ne_zero x.den_nz y.den_nz
  have key := made_pos (n := n + m) (x.num * y.num) (x.den * y.den) hb (pow_mul_lt hx.2 hy.2) h
  have e : ((x.den * y.den : Nat) : Int) = (x.den : Int) * y.den := by simp
  rw [e] at key
  unfold F_times runF B_times fr
  simp only [sSeq, sIf, sNil, sAsg, sRet, sDrop, cV, cAnd, cOr, cNot, cTrue, eOp2, eOp1, eVar, eC, eApp, aCons, aNil, eIf, eAnd, eOr, eNot, eChain, eNeg, asB, dLt, dLe, dGt, dGe, dSub, dIx, dAbs, dMin, dMax, dLen, dList, dTuple, mkTup, mkLst, gSet, QL.gTup, gTupF, unTup, sPar2, xDat, xOwn, xNil, noScr, sOwn, oLst, iSeq, asSeq, iApp, endOf, List.map_cons, List.map_nil, List.length_cons, List.length_nil, List.length_set, List.replicate, List.cons_append, List.nil_append, List.getElem?_cons_zero, List.getElem?_cons_succ, List.getElem?_nil, Option.bind_some, Option.bind_none, Option.map_some, Option.map_none, List.set_cons_zero, List.set_cons_succ, List.set_nil, Bool.false_eq_true, if_false, if_true, ne_eq, not_false_eq_true, not_true_eq_false, and_self, and_true, true_and, Bool.not_true, Bool.not_false, Bool.and_true, Bool.true_and, Nat.reduceAdd, Nat.reduceSub, Nat.reduceLeDiff, Nat.reduceLT, Nat.reduceEqDiff, Nat.lt_irrefl, decide_true, decide_false, atI_0, atI_1, atI_2, atI_3, isaV, Option.getD_some, ownL, scrAt, dMul, dAdd, i1, i3, key]
  rw [Rat.mul_def]
  rfl
theorem num_ne {y : Rat} (h : y ≠ 0) : y.num ≠ 0 := fun z => h (by
  exact Rat.num_eq_zero.mp z)
theorem num_over_den (x : Rat) : x = (x.num : Rat) / (x.den : Rat) := by
  have h := Rat.num_divInt_den x
  rw [Rat.divInt_eq_div, Rat.intCast_natCast] at h
  exact h.symm
theorem div_eq_divInt (x y : Rat) (hy : y ≠ 0) : Rat.divInt (x.num * y.den) (x.den * y.num) = x / y := by
  have h1 : (x.den : Rat) ≠ 0 := by
    have := x.den_nz
    exact_mod_cast this
  have h2 : (y.den : Rat) ≠ 0 := by
    have := y.den_nz
    exact_mod_cast this
  have h3 : (y.num : Rat) ≠ 0 := by
    have := num_ne hy
    exact_mod_cast this
  rw [Rat.divInt_eq_div]
  have ex : x = (x.num : Rat) / (x.den : Rat) := num_over_den x
  have ey : y = (y.num : Rat) / (y.den : Rat) := num_over_den y
  conv => rhs; rw [ex, ey]
  rw [Rat.intCast_mul, Rat.intCast_mul, Rat.intCast_natCast, Rat.intCast_natCast]
  grind
theorem F_over_eq {n m : Nat} {x y : Rat} (hx : Sz n x) (hy : Sz m y) (h : n + m ≤ 9000) (h0 : y ≠ 0) : F_over [fr x, fr y] = some (fr (x / y)) := by
  have i1 : IntMulOk x.num y.den := intMul_ok (a := n) (b := m) hx.1 (by rw [den_cast]; exact hy.2) (by omega)
  have i3 : IntMulOk x.den y.num := intMul_ok (a := n) (b := m) (by rw [den_cast]; exact hx.2) hy.1 (by omega)
  have hb : (x.den : Int) * y.num ≠ 0 := Int.mul_ne_zero (by have := x.den_nz; omega) (num_ne h0)
  have key := made_eq (n := n + m) (x.num * y.den) (x.den * y.num) hb (by rw [Int.natAbs_mul, den_cast]; exact pow_mul_lt hx.2 hy.1) h
  unfold F_over runF B_over fr
  simp only [sSeq, sIf, sNil, sAsg, sRet, sDrop, cV, cAnd, cOr, cNot, cTrue, eOp2, eOp1, eVar, eC, eApp, aCons, aNil, eIf, eAnd, eOr, eNot, eChain, eNeg, asB, dLt, dLe, dGt, dGe, dSub, dIx, dAbs, dMin, dMax, dLen, dList, dTuple, mkTup, mkLst, gSet, QL.gTup, gTupF, unTup, sPar2, xDat, xOwn, xNil, noScr, sOwn, oLst, iSeq, asSeq, iApp, endOf, List.map_cons, List.map_nil, List.length_cons, List.length_nil, List.length_set, List.replicate, List.cons_append, List.nil_append, List.getElem?_cons_zero, List.getElem?_cons_succ, List.getElem?_nil, Option.bind_some, Option.bind_none, Option.map_some, Option.map_none, List.set_cons_zero, List.set_cons_succ, List.set_nil, Bool.false_eq_true, if_false, if_true, ne_eq, not_false_eq_true, not_true_eq_false, and_self, and_true, true_and, Bool.not_true, Bool.not_false, Bool.and_true, Bool.true_and, Nat.reduceAdd, Nat.reduceSub, Nat.reduceLeDiff, Nat.reduceLT, Nat.reduceEqDiff, Nat.lt_irrefl, decide_true, decide_false, atI_0, atI_1, atI_2, atI_3, isaV, Option.getD_some, ownL, scrAt, dMul, dAdd, i1, i3, key]
  rw [div_eq_divInt x y h0]
  rfl
theorem Sz.div {n m : Nat} {x y : Rat} (hx : Sz n x) (hy : Sz m y) (h0 : y ≠ 0) : Sz (n + m) (x / y) := by
  rw [← div_eq_divInt x y h0]
  have hb : (x.den : Int) * y.num ≠ 0 := Int.mul_ne_zero (by have := x.den_nz; omega) (num_ne h0)
  have hd : ((x.den : Int) * y.num).natAbs ≠ 0 := by omega
  have e : Rat.divInt (x.num * y.den) (x.den * y.num) = Rat.normalize (((x.den : Int) * y.num).sign * (x.num * y.den)) ((x.den : Int) * y.num).natAbs hd := by
    rw [Rat.normalize_eq_mkRat, ← Rat.divInt_ofNat]
    have : (((x.den : Int) * y.num).natAbs : Int) = ((x.den : Int) * y.num).sign * ((x.den : Int) * y.num) := by rw [Int.sign_mul_self]
    rw [this, Rat.divInt_mul_left]
    intro z
    exact hb (Int.sign_eq_zero_iff_zero.mp z)
  rw [e]
  refine Sz.normalize _ ?_ ?_
  · rw [Int.natAbs_mul, Int.natAbs_sign_of_ne_zero hb, Nat.one_mul, Int.natAbs_mul, den_cast]
    exact pow_mul_lt hx.1 hy.2
  · rw [Int.natAbs_mul, den_cast]
    exact pow_mul_lt hx.2 hy.1
end QP
set_option Elab.async false
set_option linter.all false
set_option maxRecDepth 100000
set_option maxHeartbeats 1000000
namespace QP
open PySem PySem.Spec PyProof.Rows L2 QL

theorem dNe_int (a b : Int) : dNe (.int a) (.int b) = some (.bool (!(a == b))) := rfl
theorem dEq_int (a b : Int) : dEq (.int a) (.int b) = some (.bool (a == b)) := rfl
/-! ### the law's own least terms -/
theorem both_loop (B : Nat) (hB : B ≤ 9000) : ∀ (n a b : Nat), b < n → a < 2 ^ B → b < 2 ^ B → whileM (cV (eOp2 dNe (eVar 1) (eC (.int 0)))) (sPar2 0 1 (xDat (eVar 1) (xDat (eOp2 dSub (eVar 0) (eOp2 dMul (eOp2 dDiv (eVar 0) (eVar 1)) (eVar 1))) xNil))) n [.dat (.int a), .dat (.int b)] = some (.nx, [.dat (.int (Nat.gcd a b)), .dat (.int 0)])
  | 0, a, b, h, _, _ => absurd h (Nat.not_lt_zero _)
  | n + 1, a, b, h, ha, hb2 => by
    unfold whileM
    by_cases hb : b = 0
    · subst hb
      simp [cV, eOp2, eVar, eC, dNe_int, asB]
    · have hp : 0 < b := Nat.pos_of_ne_zero hb
      have hbz : ¬ (b : Int) = 0 := by omega
      have h1 : Builtin.divisionGoesByPylong a b = false := pylong_ok (n := B) (by simpa using hb2) hB
      have e1 : Int.fdiv a b = ((a / b : Nat) : Int) := by rw [Int.fdiv_eq_ediv_of_nonneg _ (by omega)]; rfl
      have hq : a / b < 2 ^ B := Nat.lt_of_le_of_lt (Nat.div_le_self _ _) ha
      have h2 : IntMulOk ((a / b : Nat) : Int) (b : Int) := intMul_ok (a := B) (b := B) (by rw [Int.natAbs_natCast]; exact hq) (by rw [Int.natAbs_natCast]; exact hb2) (by omega)
      have e3 : (a : Int) - ((a / b : Nat) : Int) * (b : Int) = ((a % b : Nat) : Int) := by
        have := Nat.div_add_mod a b
        have e : ((a / b : Nat) : Int) * (b : Int) = ((b * (a / b) : Nat) : Int) := by
          rw [Nat.mul_comm]; simp
        rw [e]
        omega
      have ih := both_loop B hB n b (a % b) (by have := Nat.mod_lt a hp; omega) hb2 (Nat.lt_trans (Nat.mod_lt a hp) hb2)
      have e2 : Nat.gcd b (a % b) = Nat.gcd a b := by
        rw [Nat.gcd_comm b, ← Nat.gcd_rec, Nat.gcd_comm]
      rw [e2] at ih
      have hne : (!((b : Int) == 0)) = true := by simp [hb]
      simp only [sSeq, sIf, sNil, sAsg, sRet, sDrop, cV, cAnd, cOr, cNot, cTrue, eOp2, eOp1, eVar, eC, eApp, aCons, aNil, eIf, eAnd, eOr, eNot, eChain, eNeg, asB, dLt, dLe, dGt, dGe, dSub, dIx, dAbs, dMin, dMax, dLen, dList, dTuple, mkTup, mkLst, gSet, QL.gTup, gTupF, unTup, sPar2, xDat, xOwn, xNil, noScr, sOwn, oLst, iSeq, asSeq, iApp, endOf, List.map_cons, List.map_nil, List.length_cons, List.length_nil, List.length_set, List.replicate, List.cons_append, List.nil_append, List.getElem?_cons_zero, List.getElem?_cons_succ, List.getElem?_nil, Option.bind_some, Option.bind_none, Option.map_some, Option.map_none, List.set_cons_zero, List.set_cons_succ, List.set_nil, Bool.false_eq_true, if_false, if_true, ne_eq, not_false_eq_true, not_true_eq_false, and_self, and_true, true_and, Bool.not_true, Bool.not_false, Bool.and_true, Bool.true_and, Nat.reduceAdd, Nat.reduceSub, Nat.reduceLeDiff, Nat.reduceLT, Nat.reduceEqDiff, Nat.lt_irrefl, decide_true, decide_false, atI_0, atI_1, atI_2, atI_3, isaV, Option.getD_some, ownL, scrAt, dNe_int, hne, dMul, dDiv, hbz, h1, e1, h2, e3]
      exact ih
theorem F__law_both_eq {B : Nat} (hB : B ≤ 9000) (a b : Nat) (ha : a < 2 ^ B) (hb : b < 2 ^ B) : F__law_both [.int a, .int b] = some (.int (Nat.gcd a b)) := by
  have h := both_loop B hB (b + 1) a b (Nat.lt_succ_self _) ha hb
  simp [F__law_both, runF, B__law_both, sSeq, sWhile, fu__law_both, slotI, h, sRet, eVar, endOf]
theorem part_pos {n : Nat} (a : Int) (b : Nat) (hb : b ≠ 0) (ha : a.natAbs < 2 ^ n) (hs : b < 2 ^ n) (hn : n ≤ 9000) : F__law_part [.int a, .int b] = some (fr (Rat.normalize a b hb)) := by
  have hg : 0 < Nat.gcd a.natAbs b := gcd_pos hb
  have hgb : Nat.gcd a.natAbs b < 2 ^ n := Nat.lt_of_le_of_lt (Nat.gcd_le_right _ (Nat.pos_of_ne_zero hb)) hs
  have hp : ∀ x : Int, Builtin.divisionGoesByPylong x (Nat.gcd a.natAbs b : Nat) = false := fun x => pylong_ok (n := n) (by simpa using hgb) hn
  have h0 : ¬ ((b : Int) < 0) := by omega
  have hgz : ¬ ((Nat.gcd a.natAbs b : Nat) : Int) = 0 := by omega
  have hab : (if a < 0 then -a else a) = (a.natAbs : Int) := abs_nat a
  have e1 : Int.fdiv a (Nat.gcd a.natAbs b : Nat) = a / (Nat.gcd a.natAbs b : Nat) := Int.fdiv_eq_ediv_of_nonneg _ (by omega)
  have e2 : Int.fdiv b (Nat.gcd a.natAbs b : Nat) = ((b / Nat.gcd a.natAbs b : Nat) : Int) := by
    rw [Int.fdiv_eq_ediv_of_nonneg _ (by omega)]
    rfl
  have hF := F__law_both_eq hn a.natAbs b ha hs
  unfold F__law_part runF B__law_part
  simp only [sSeq, sIf, sNil, sAsg, sRet, sDrop, cV, cAnd, cOr, cNot, cTrue, eOp2, eOp1, eVar, eC, eApp, aCons, aNil, eIf, eAnd, eOr, eNot, eChain, eNeg, asB, dLt, dLe, dGt, dGe, dSub, dIx, dAbs, dMin, dMax, dLen, dList, dTuple, mkTup, mkLst, gSet, QL.gTup, gTupF, unTup, sPar2, xDat, xOwn, xNil, noScr, sOwn, oLst, iSeq, asSeq, iApp, endOf, List.map_cons, List.map_nil, List.length_cons, List.length_nil, List.length_set, List.replicate, List.cons_append, List.nil_append, List.getElem?_cons_zero, List.getElem?_cons_succ, List.getElem?_nil, Option.bind_some, Option.bind_none, Option.map_some, Option.map_none, List.set_cons_zero, List.set_cons_succ, List.set_nil, Bool.false_eq_true, if_false, if_true, ne_eq, not_false_eq_true, not_true_eq_false, and_self, and_true, true_and, Bool.not_true, Bool.not_false, Bool.and_true, Bool.true_and, Nat.reduceAdd, Nat.reduceSub, Nat.reduceLeDiff, Nat.reduceLT, Nat.reduceEqDiff, Nat.lt_irrefl, decide_true, decide_false, atI_0, atI_1, atI_2, atI_3, isaV, Option.getD_some, ownL, scrAt, dDiv, hab, hF, decide_eq_false h0, hgz, hp, e1, e2]
  rw [Rat.normalize_eq]
  rfl
theorem F__law_by_eq {n m : Nat} {x y : Rat} (hx : Sz n x) (hy : Sz m y) (h : n + m ≤ 9000) : F__law_by [fr x, fr y] = some (fr (x * y)) := by
  have i1 : IntMulOk x.num y.num := intMul_ok (a := n) (b := m) hx.1 hy.1 (by omega)
  have i3 : IntMulOk x.den y.den := intMul_ok (a := n) (b := m) (by rw [den_cast]; exact hx.2) (by rw [den_cast]; exact hy.2) (by omega)
  have hb : x.den * y.den ≠ 0 := Nat.mul_ne_zero x.den_nz y.den_nz
  have key := part_pos (n := n + m) (x.num * y.num) (x.den * y.den) hb (by rw [Int.natAbs_mul]; exact pow_mul_lt hx.1 hy.1) (pow_mul_lt hx.2 hy.2) h
  have e : ((x.den * y.den : Nat) : Int) = (x.den : Int) * y.den := by simp
  rw [e] at key
  unfold F__law_by runF B__law_by fr
  simp only [sSeq, sIf, sNil, sAsg, sRet, sDrop, cV, cAnd, cOr, cNot, cTrue, eOp2, eOp1, eVar, eC, eApp, aCons, aNil, eIf, eAnd, eOr, eNot, eChain, eNeg, asB, dLt, dLe, dGt, dGe, dSub, dIx, dAbs, dMin, dMax, dLen, dList, dTuple, mkTup, mkLst, gSet, QL.gTup, gTupF, unTup, sPar2, xDat, xOwn, xNil, noScr, sOwn, oLst, iSeq, asSeq, iApp, endOf, List.map_cons, List.map_nil, List.length_cons, List.length_nil, List.length_set, List.replicate, List.cons_append, List.nil_append, List.getElem?_cons_zero, List.getElem?_cons_succ, List.getElem?_nil, Option.bind_some, Option.bind_none, Option.map_some, Option.map_none, List.set_cons_zero, List.set_cons_succ, List.set_nil, Bool.false_eq_true, if_false, if_true, ne_eq, not_false_eq_true, not_true_eq_false, and_self, and_true, true_and, Bool.not_true, Bool.not_false, Bool.and_true, Bool.true_and, Nat.reduceAdd, Nat.reduceSub, Nat.reduceLeDiff, Nat.reduceLT, Nat.reduceEqDiff, Nat.lt_irrefl, decide_true, decide_false, atI_0, atI_1, atI_2, atI_3, isaV, Option.getD_some, ownL, scrAt, dMul, dAdd, i1, i3, key]
  rw [Rat.mul_def]
  rfl

/-! ### draws -/
theorem mul_small {a b : Int} (h : -(2 ^ 64) < b ∧ b < 2 ^ 64) : IntMulOk a b := .of_right (intBits_le_64 h.1 h.2)
theorem mul_small' {a b : Int} (h : -(2 ^ 64) < a ∧ a < 2 ^ 64) : IntMulOk a b := .of_left (intBits_le_64 h.1 h.2)
theorem spare_loop (ns : List Int) (k : Int) : ∀ (xs : List D) (s : Int) (t : Sl), ∃ (s' : Int) (t' : Sl), QL.forM (gSet 3) (sAsg (eOp2 dDiv (eVar 2) (eC (.int 1000003))) (gSet 2)) xs [.scr ns, .dat (.int k), .dat (.int s), t] = some (.nx, [.scr ns, .dat (.int k), .dat (.int s'), t'])
  | [], s, t => ⟨s, t, rfl⟩
  | x :: xs, s, t => by
    obtain ⟨s', t', h⟩ := spare_loop ns k xs (Int.fdiv s 1000003) (.dat x)
    refine ⟨s', t', ?_⟩
    have h1 : Builtin.divisionGoesByPylong s 1000003 = false := pylong_ok (n := 20) (by decide) (by decide)
    unfold QL.forM
    simp only [sSeq, sIf, sNil, sAsg, sRet, sDrop, cV, cAnd, cOr, cNot, cTrue, eOp2, eOp1, eVar, eC, eApp, aCons, aNil, eIf, eAnd, eOr, eNot, eChain, eNeg, asB, dLt, dLe, dGt, dGe, dSub, dIx, dAbs, dMin, dMax, dLen, dList, dTuple, mkTup, mkLst, gSet, QL.gTup, gTupF, unTup, sPar2, xDat, xOwn, xNil, noScr, sOwn, oLst, iSeq, asSeq, iApp, endOf, List.map_cons, List.map_nil, List.length_cons, List.length_nil, List.length_set, List.replicate, List.cons_append, List.nil_append, List.getElem?_cons_zero, List.getElem?_cons_succ, List.getElem?_nil, Option.bind_some, Option.bind_none, Option.map_some, Option.map_none, List.set_cons_zero, List.set_cons_succ, List.set_nil, Bool.false_eq_true, if_false, if_true, ne_eq, not_false_eq_true, not_true_eq_false, and_self, and_true, true_and, Bool.not_true, Bool.not_false, Bool.and_true, Bool.true_and, Nat.reduceAdd, Nat.reduceSub, Nat.reduceLeDiff, Nat.reduceLT, Nat.reduceEqDiff, Nat.lt_irrefl, decide_true, decide_false, atI_0, atI_1, atI_2, atI_3, isaV, Option.getD_some, ownL, scrAt, dDiv, h1, show ¬ (1000003 : Int) = 0 by decide]
    exact h
theorem atI_ok {α : Type} {xs : List α} {i : Int} (h0 : 0 ≤ i) (h1 : i < xs.length) : ∃ a, atI xs i = some a ∧ a ∈ xs := by
  obtain ⟨j, rfl⟩ : ∃ j : Nat, i = (j : Int) := ⟨i.toNat, by omega⟩
  have hj : j < xs.length := by omega
  exact ⟨xs[j], atI_nat (by simp), List.getElem_mem _⟩
theorem cell_ok (ns : List Int) (h63 : ns.length ≤ 63) (k : Nat) (hk : k < 2 ^ 60) : ∃ r : Int, F__law_cell_at [.scr ns, .dat (.int k)] = some (.int r, [.scr ns, .dat (.int k)]) := by
  by_cases h1 : (k : Int) < ns.length
  · obtain ⟨r, hr, _⟩ := atI_ok (xs := ns) (i := k) (by omega) h1
    refine ⟨r, ?_⟩
    unfold F__law_cell_at runO B__law_cell_at
    simp only [sSeq, sIf, sNil, sAsg, sRet, sDrop, cV, cAnd, cOr, cNot, cTrue, eOp2, eOp1, eVar, eC, eApp, aCons, aNil, eIf, eAnd, eOr, eNot, eChain, eNeg, asB, dLt, dLe, dGt, dGe, dSub, dIx, dAbs, dMin, dMax, dLen, dList, dTuple, mkTup, mkLst, gSet, QL.gTup, gTupF, unTup, sPar2, xDat, xOwn, xNil, noScr, sOwn, oLst, iSeq, asSeq, iApp, endOf, List.map_cons, List.map_nil, List.length_cons, List.length_nil, List.length_set, List.replicate, List.cons_append, List.nil_append, List.getElem?_cons_zero, List.getElem?_cons_succ, List.getElem?_nil, Option.bind_some, Option.bind_none, Option.map_some, Option.map_none, List.set_cons_zero, List.set_cons_succ, List.set_nil, Bool.false_eq_true, if_false, if_true, ne_eq, not_false_eq_true, not_true_eq_false, and_self, and_true, true_and, Bool.not_true, Bool.not_false, Bool.and_true, Bool.true_and, Nat.reduceAdd, Nat.reduceSub, Nat.reduceLeDiff, Nat.reduceLT, Nat.reduceEqDiff, Nat.lt_irrefl, decide_true, decide_false, atI_0, atI_1, atI_2, atI_3, isaV, Option.getD_some, ownL, scrAt, eLenS, eIxS, ownsIn, decide_eq_true h1, hr, endO, backO, pick, Nat.le_refl]
  · by_cases h2 : ns = []
    · subst h2
      refine ⟨0, ?_⟩
      have h1' : ¬ (k : Int) < ((0 : Nat) : Int) := by omega
      unfold F__law_cell_at runO B__law_cell_at
      simp only [sSeq, sIf, sNil, sAsg, sRet, sDrop, cV, cAnd, cOr, cNot, cTrue, eOp2, eOp1, eVar, eC, eApp, aCons, aNil, eIf, eAnd, eOr, eNot, eChain, eNeg, asB, dLt, dLe, dGt, dGe, dSub, dIx, dAbs, dMin, dMax, dLen, dList, dTuple, mkTup, mkLst, gSet, QL.gTup, gTupF, unTup, sPar2, xDat, xOwn, xNil, noScr, sOwn, oLst, iSeq, asSeq, iApp, endOf, List.map_cons, List.map_nil, List.length_cons, List.length_nil, List.length_set, List.replicate, List.cons_append, List.nil_append, List.getElem?_cons_zero, List.getElem?_cons_succ, List.getElem?_nil, Option.bind_some, Option.bind_none, Option.map_some, Option.map_none, List.set_cons_zero, List.set_cons_succ, List.set_nil, Bool.false_eq_true, if_false, if_true, ne_eq, not_false_eq_true, not_true_eq_false, and_self, and_true, true_and, Bool.not_true, Bool.not_false, Bool.and_true, Bool.true_and, Nat.reduceAdd, Nat.reduceSub, Nat.reduceLeDiff, Nat.reduceLT, Nat.reduceEqDiff, Nat.lt_irrefl, decide_true, decide_false, atI_0, atI_1, atI_2, atI_3, isaV, Option.getD_some, ownL, scrAt, eLenS, eIxS, eEqNilS, ownsIn, decide_eq_false h1', endO, backO, pick, Nat.le_refl, List.isEmpty_nil]
    · have hl : 0 < ns.length := List.length_pos_iff.mpr h2
      have hlz : ¬ (ns.length : Int) = 0 := by omega
      have e1 : Int.fmod k ns.length = ((k % ns.length : Nat) : Int) := by
        rw [Int.fmod_eq_emod_of_nonneg _ (by omega)]; rfl
      have e2 : Int.fdiv k ns.length = ((k / ns.length : Nat) : Int) := by
        rw [Int.fdiv_eq_ediv_of_nonneg _ (by omega)]; rfl
      obtain ⟨c, hc, _⟩ := atI_ok (xs := ns) (i := ((k % ns.length : Nat) : Int)) (by omega) (by have := Nat.mod_lt k hl; omega)
      have hp : Builtin.divisionGoesByPylong k ns.length = false := pylong_ok (n := 10) (by show ns.length < 1024; omega) (by decide)
      obtain ⟨s', t', hs⟩ := spare_loop ns k (intsD 0 (if (60 : Int) < ((k / ns.length : Nat) : Int) then (60 : Int) else ((k / ns.length : Nat) : Int)).toNat) c .un
      have hemp : ns.isEmpty = false := by cases ns with | nil => exact absurd rfl h2 | cons a r => rfl
      have hm1 : IntMulOk c 31 := mul_small (by decide)
      have hm2 : IntMulOk s' 101 := mul_small (by decide)
      have hr : -(2 ^ 62) ≤ (if (60 : Int) < ((k / ns.length : Nat) : Int) then (60 : Int) else ((k / ns.length : Nat) : Int)) ∧ (if (60 : Int) < ((k / ns.length : Nat) : Int) then (60 : Int) else ((k / ns.length : Nat) : Int)) < 2 ^ 62 := by
        split
        · decide
        · constructor
          · have : (0 : Int) ≤ ((k / ns.length : Nat) : Int) := Int.natCast_nonneg _
            omega
          · omega
      refine ⟨c * 31 + k + s' * 101, ?_⟩
      unfold F__law_cell_at runO B__law_cell_at
      simp only [sSeq, sIf, sNil, sAsg, sRet, sDrop, cV, cAnd, cOr, cNot, cTrue, eOp2, eOp1, eVar, eC, eApp, aCons, aNil, eIf, eAnd, eOr, eNot, eChain, eNeg, asB, dLt, dLe, dGt, dGe, dSub, dIx, dAbs, dMin, dMax, dLen, dList, dTuple, mkTup, mkLst, gSet, QL.gTup, gTupF, unTup, sPar2, xDat, xOwn, xNil, noScr, sOwn, oLst, iSeq, asSeq, iApp, endOf, List.map_cons, List.map_nil, List.length_cons, List.length_nil, List.length_set, List.replicate, List.cons_append, List.nil_append, List.getElem?_cons_zero, List.getElem?_cons_succ, List.getElem?_nil, Option.bind_some, Option.bind_none, Option.map_some, Option.map_none, List.set_cons_zero, List.set_cons_succ, List.set_nil, Bool.false_eq_true, if_false, if_true, ne_eq, not_false_eq_true, not_true_eq_false, and_self, and_true, true_and, Bool.not_true, Bool.not_false, Bool.and_true, Bool.true_and, Nat.reduceAdd, Nat.reduceSub, Nat.reduceLeDiff, Nat.reduceLT, Nat.reduceEqDiff, Nat.lt_irrefl, decide_true, decide_false, atI_0, atI_1, atI_2, atI_3, isaV, Option.getD_some, ownL, scrAt, eLenS, eIxS, eEqNilS, ownsIn, decide_eq_false h1, endO, backO, pick, Nat.le_refl, hemp, dMod, dDiv, hlz, e1, e2, hc, hp, sFor, rng1, hr, hs, dMul, dAdd, hm1, hm2]
theorem mixed_ok (ns : List Int) (h63 : ns.length ≤ 63) (k : Nat) (hk : k < 2 ^ 60) (b : Int) (hb : 0 < b) : ∃ r : Int, F__law_mixed [.scr ns, .dat (.int k), .dat (.int b)] = some (.int r, [.scr ns, .dat (.int k), .dat (.int b)]) ∧ 0 ≤ r ∧ r < b := by
  obtain ⟨c, hc⟩ := cell_ok ns h63 k hk
  have hm1 : IntMulOk c 1103515245 := mul_small (by decide)
  have hm2 : IntMulOk 7919 (k : Int) := mul_small' (by decide)
  have hbz : ¬ b = 0 := by omega
  obtain ⟨s, hsd⟩ : ∃ s : Int, Int.fmod (c * 1103515245 + 7919 * k + 12345) 2147483647 = s := ⟨_, rfl⟩
  have hs : 0 ≤ s ∧ s < 2147483647 := by
    rw [← hsd, Int.fmod_eq_emod_of_nonneg _ (by decide)]
    exact ⟨Int.emod_nonneg _ (by decide), Int.emod_lt_of_pos _ (by decide)⟩
  have hp : s.natAbs < 2 ^ 64 := by omega
  refine ⟨Int.fmod (Int.fmod (Int.fmod (s ^ 5) 2147483647) 999983) b, ?_, ?_, ?_⟩
  · unfold F__law_mixed runO B__law_mixed
    simp only [sSeq, sIf, sNil, sAsg, sRet, sDrop, cV, cAnd, cOr, cNot, cTrue, eOp2, eOp1, eVar, eC, eApp, aCons, aNil, eIf, eAnd, eOr, eNot, eChain, eNeg, asB, dLt, dLe, dGt, dGe, dSub, dIx, dAbs, dMin, dMax, dLen, dList, dTuple, mkTup, mkLst, gSet, QL.gTup, gTupF, unTup, sPar2, xDat, xOwn, xNil, noScr, sOwn, oLst, iSeq, asSeq, iApp, endOf, List.map_cons, List.map_nil, List.length_cons, List.length_nil, List.length_set, List.replicate, List.cons_append, List.nil_append, List.getElem?_cons_zero, List.getElem?_cons_succ, List.getElem?_nil, Option.bind_some, Option.bind_none, Option.map_some, Option.map_none, List.set_cons_zero, List.set_cons_succ, List.set_nil, Bool.false_eq_true, if_false, if_true, ne_eq, not_false_eq_true, not_true_eq_false, and_self, and_true, true_and, Bool.not_true, Bool.not_false, Bool.and_true, Bool.true_and, Nat.reduceAdd, Nat.reduceSub, Nat.reduceLeDiff, Nat.reduceLT, Nat.reduceEqDiff, Nat.lt_irrefl, decide_true, decide_false, atI_0, atI_1, atI_2, atI_3, isaV, Option.getD_some, ownL, scrAt, eAppO, yVar, yDat, yNil, isRef, ownIx, List.nodup_nil, toSl, clr, put, hc, dMul, dAdd, hm1, hm2, dMod, show ¬ (2147483647 : Int) = 0 by decide, show ¬ (999983 : Int) = 0 by decide, hbz, ownsIn, endO, backO, pick, Nat.le_refl, dPow, show (0 : Int) ≤ 5 by decide, show (5 : Int) ≤ 1000000 by decide, show Int.toNat 5 = 5 by rfl, hsd, hp]
  · rw [Int.fmod_eq_emod_of_nonneg _ (by omega)]
    exact Int.emod_nonneg _ (by omega)
  · rw [Int.fmod_eq_emod_of_nonneg _ (by omega)]
    exact Int.emod_lt_of_pos _ hb
theorem draw_ok (ns : List Int) (h63 : ns.length ≤ 63) (ts : List D) (ht : ts.length < 100000) (b : Int) (hb : 0 < b) : ∃ r : Int, F__law_draw [.scr ns, .own (.lst ts), .dat (.int b)] = some (.int r, [.scr ns, .own (.lst (ts ++ [.int 0])), .dat (.int b)]) ∧ 0 ≤ r ∧ r < b := by
  obtain ⟨r, hr, h1, h2⟩ := mixed_ok ns h63 (ts.length + 1) (by omega) b hb
  refine ⟨r, ?_, h1, h2⟩
  have hl : ts.length < 1000000 := by omega
  have e : ((ts ++ [PyData.int 0]).length : Int) = ((ts.length + 1 : Nat) : Int) := by simp
  unfold F__law_draw runO B__law_draw
  simp only [sSeq, sIf, sNil, sAsg, sRet, sDrop, cV, cAnd, cOr, cNot, cTrue, eOp2, eOp1, eVar, eC, eApp, aCons, aNil, eIf, eAnd, eOr, eNot, eChain, eNeg, asB, dLt, dLe, dGt, dGe, dSub, dIx, dAbs, dMin, dMax, dLen, dList, dTuple, mkTup, mkLst, gSet, QL.gTup, gTupF, unTup, sPar2, xDat, xOwn, xNil, noScr, sOwn, oLst, iSeq, asSeq, iApp, endOf, List.map_cons, List.map_nil, List.length_cons, List.length_nil, List.length_set, List.replicate, List.cons_append, List.nil_append, List.getElem?_cons_zero, List.getElem?_cons_succ, List.getElem?_nil, Option.bind_some, Option.bind_none, Option.map_some, Option.map_none, List.set_cons_zero, List.set_cons_succ, List.set_nil, Bool.false_eq_true, if_false, if_true, ne_eq, not_false_eq_true, not_true_eq_false, and_self, and_true, true_and, Bool.not_true, Bool.not_false, Bool.and_true, Bool.true_and, Nat.reduceAdd, Nat.reduceSub, Nat.reduceLeDiff, Nat.reduceLT, Nat.reduceEqDiff, Nat.lt_irrefl, decide_true, decide_false, atI_0, atI_1, atI_2, atI_3, isaV, Option.getD_some, ownL, scrAt, eAppend, hl, ownsIn, List.contains_cons, List.contains_nil, BEq.rfl, Bool.true_or, eAppO, yVar, yDat, yNil, isRef, eLenO, e, ownIx, List.nodup_nil, toSl, clr, put, hr, endO, backO, pick, Nat.le_refl]
end QP
set_option Elab.async false
set_option linter.all false
set_option maxRecDepth 100000
set_option maxHeartbeats 1000000
namespace QP
open PySem PySem.Spec PyProof.Rows L2 QL

theorem kit1 : kitB "str" "str" = some true := by decide +kernel
theorem kit2 : kitB "int" "str" = some false := by decide +kernel
theorem kit3 : kitB "tuple" "tuple" = some true := by decide +kernel
theorem kit4 : kitB "int" "int" = some true := by decide +kernel
theorem kit5 : kitB "int" "bool" = some false := by decide +kernel
theorem kit6 : kitB "str" "int" = some false := by decide +kernel
theorem kit7 : kitB "tuple" "int" = some false := by decide +kernel
theorem kit8 : kitB "tuple" "str" = some false := by decide +kernel
theorem isa1 (x : Str) : isaV "str" (.str x) = some (.bool true) := by show (kitB "str" "str").map _ = _; rw [kit1]; rfl
theorem isa2 (x : Int) : isaV "str" (.int x) = some (.bool false) := by show (kitB "int" "str").map _ = _; rw [kit2]; rfl
theorem isa3 (x : List D) : isaV "tuple" (.tuple x) = some (.bool true) := by show (kitB "tuple" "tuple").map _ = _; rw [kit3]; rfl
theorem isa4 (x : Int) : isaV "int" (.int x) = some (.bool true) := by show (kitB "int" "int").map _ = _; rw [kit4]; rfl
theorem isa5 (x : Int) : isaV "bool" (.int x) = some (.bool false) := by show (kitB "int" "bool").map _ = _; rw [kit5]; rfl
theorem isa6 (x : Str) : isaV "int" (.str x) = some (.bool false) := by show (kitB "str" "int").map _ = _; rw [kit6]; rfl
theorem isa7 (x : List D) : isaV "int" (.tuple x) = some (.bool false) := by show (kitB "tuple" "int").map _ = _; rw [kit7]; rfl
theorem isa8 (x : List D) : isaV "str" (.tuple x) = some (.bool false) := by show (kitB "tuple" "str").map _ = _; rw [kit8]; rfl

/-! ### comprehensions that change nothing -/
theorem set_un {ρ : Ro} {i : Nat} {s : Sl} (h : ρ[i]? = some s) (t : Sl) : (ρ.set i t).set i s = ρ := by
  rw [List.set_set]
  refine List.ext_getElem? fun j => ?_
  rw [List.getElem?_set]
  split
  · rename_i e
    subst e
    have hl := (List.getElem?_eq_some_iff.mp h).1
    rw [if_pos hl]
    exact h.symm
  · rfl
theorem lc_pure {α : Type} {i : Nat} {ρ : Ro} {m : M D} {g h : α → D} (hi : ρ[i]? = some .un) : ∀ (as : List α) (acc : List D), (∀ a ∈ as, m (ρ.set i (.dat (g a))) = some (h a, ρ.set i (.dat (g a)))) → acc.length + as.length ≤ 1000000 → lcM [i] (gSet i) cTrue m (as.map g) ρ acc = some (acc ++ as.map h, ρ)
  | [], acc, _, _ => by simp [lcM]
  | a :: as, acc, hm, hl => by
    have h1 := hm a List.mem_cons_self
    have ih := lc_pure hi as (acc ++ [h a]) (fun b hb => hm b (List.mem_cons_of_mem _ hb)) (by simp at hl ⊢; omega)
    have hlt : acc.length < 1000000 := by simp at hl; omega
    have e : wipeR (ρ.set i (.dat (g a))) [i] = ρ := by
      show (ρ.set i (.dat (g a))).set i .un = ρ
      exact set_un hi _
    rw [List.map_cons]
    unfold lcM
    simp only [gSet, Option.bind_some, cTrue, if_true, h1, hlt, e, ih, List.append_assoc, List.cons_append, List.nil_append, List.map_cons]
theorem eLc_pure {α : Type} {i : Nat} {ρ : Ro} {it : M (List D)} {m : M D} {g h : α → D} (as : List α) (hit : it ρ = some (as.map g, ρ)) (hi : ρ[i]? = some .un ∨ ∃ d, ρ[i]? = some (.dat d)) (hl : as.length ≤ 1000000) (hm : ∀ a ∈ as, m (ρ.set i (.dat (g a))) = some (h a, ρ.set i (.dat (g a)))) : eLc [i] it (gSet i) cTrue m ρ = some (.list (as.map h), ρ) := by
  have hlen : i < ρ.length := by
    rcases hi with h | ⟨d, h⟩ <;> exact (List.getElem?_eq_some_iff.mp h).1
  have hu : (ρ.set i .un)[i]? = some .un := List.getElem?_set_self hlen
  have key := lc_pure (ρ := ρ.set i .un) (m := m) (g := g) (h := h) hu as [] (fun a ha => by rw [List.set_set]; exact hm a ha) (by simpa using hl)
  have e1 : wipeR ρ [i] = ρ.set i .un := rfl
  have e2 : wipeR (ρ.set i .un) [i] = ρ.set i .un := by show (ρ.set i .un).set i .un = _; rw [List.set_set]
  have e3 : backR ρ (ρ.set i .un) [i] = ρ := by
    show (ρ.set i .un).set i (match ρ[i]? with | some s => keepD s | none => .un) = ρ
    rcases hi with h | ⟨d, h⟩
    · rw [h]; exact set_un h _
    · rw [h]; exact set_un h _
  unfold eLc oLc
  rw [hit]
  simp only [Option.bind_some, e1, key, Option.map_some, e2, e3, List.nil_append]

/-! ### nests -/
inductive Nest where
  | leaf (x : Rat)
  | node (side : Bool) (ps : List Nest)
def word : Bool → Str
  | true => "side"
  | false => "stack"
mutual
def toD : Nest → D
  | .leaf x => fr x
  | .node b ps => .tuple [.str (word b), .tuple (toDs ps)]
def toDs : List Nest → List D
  | [] => []
  | p :: ps => toD p :: toDs ps
end
theorem toDs_map : ∀ ps, toDs ps = ps.map toD
  | [] => rfl
  | p :: ps => by rw [toDs, toDs_map ps]; rfl
/-- proportions as they are drawn, or one over them -/
def Pr (x : Rat) : Prop := 0 < x ∧ Sz 5 x
mutual
def Wf : Nat → Nest → Prop
  | _, .leaf x => Pr x
  | 0, .node _ _ => False
  | d + 1, .node _ ps => 2 ≤ ps.length ∧ ps.length ≤ 3 ∧ Wfs d ps
def Wfs : Nat → List Nest → Prop
  | _, [] => True
  | d, p :: ps => Wf d p ∧ Wfs d ps
end
theorem Wfs_mem {d : Nat} : ∀ {ps : List Nest}, Wfs d ps → ∀ p ∈ ps, Wf d p
  | [], _, p, h => nomatch h
  | q :: ps, w, p, h => by
    unfold Wfs at w
    rcases List.mem_cons.mp h with rfl | h
    · exact w.1
    · exact Wfs_mem w.2 p h
theorem dEq_str {x y : Str} {c : Bool} (h1 : SeqAt.shaped (.str x) = true) (h2 : SeqAt.shaped (.str y) = true) (h : (x == y) = c) : dEq (.str x) (.str y) = some (.bool c) := by
  unfold dEq
  rw [if_pos ⟨h1, h2⟩]
  show some (PyData.bool (x == y)) = _
  rw [h]
theorem sh_word (b : Bool) : SeqAt.shaped (.str (word b)) = true := by cases b <;> decide +kernel
theorem sh_side : SeqAt.shaped (.str "side") = true := by decide +kernel
theorem sh_stack : SeqAt.shaped (.str "stack") = true := by decide +kernel
theorem dEq_word (b : Bool) : dEq (.str (word b)) (.str "side") = some (.bool b) := dEq_str (sh_word b) sh_side (by cases b <;> decide +kernel)
theorem dEq_word2 (b : Bool) : dEq (.str (word b)) (.str "stack") = some (.bool (!b)) := dEq_str (sh_word b) sh_stack (by cases b <;> decide +kernel)

/-! ### a drawn proportion -/
theorem pick_ok (ns : List Int) (h63 : ns.length ≤ 63) (ts : List D) (ht : ts.length < 100000) (some' : List D) (hs : some' ≠ []) : ∃ d, F__law_pick [.scr ns, .own (.lst ts), .dat (.list some')] = some (d, [.scr ns, .own (.lst (ts ++ [.int 0])), .dat (.list some')]) ∧ d ∈ some' := by
  obtain ⟨r, hr, h1, h2⟩ := draw_ok ns h63 ts ht some'.length (by have := List.length_pos_iff.mpr hs; omega)
  obtain ⟨d, hd, hm⟩ := atI_ok h1 h2
  refine ⟨d, ?_, hm⟩
  unfold F__law_pick runO B__law_pick
  simp only [sSeq, sIf, sNil, sAsg, sRet, sDrop, cV, cAnd, cOr, cNot, cTrue, eOp2, eOp1, eVar, eC, eApp, aCons, aNil, eIf, eAnd, eOr, eNot, eChain, eNeg, asB, dLt, dLe, dGt, dGe, dSub, dIx, dAbs, dMin, dMax, dLen, dList, dTuple, mkTup, mkLst, gSet, QL.gTup, gTupF, unTup, sPar2, xDat, xOwn, xNil, noScr, sOwn, oLst, iSeq, asSeq, iApp, endOf, List.map_cons, List.map_nil, List.length_cons, List.length_nil, List.length_set, List.replicate, List.cons_append, List.nil_append, List.getElem?_cons_zero, List.getElem?_cons_succ, List.getElem?_nil, Option.bind_some, Option.bind_none, Option.map_some, Option.map_none, List.set_cons_zero, List.set_cons_succ, List.set_nil, Bool.false_eq_true, if_false, if_true, ne_eq, not_false_eq_true, not_true_eq_false, and_self, and_true, true_and, Bool.not_true, Bool.not_false, Bool.and_true, Bool.true_and, Nat.reduceAdd, Nat.reduceSub, Nat.reduceLeDiff, Nat.reduceLT, Nat.reduceEqDiff, Nat.lt_irrefl, decide_true, decide_false, isa1, isa2, isa3, isa4, isa5, isa6, isa7, isa8, atI_0, atI_1, atI_2, atI_3, Option.getD_some, ownL, scrAt, ownsIn, List.contains_cons, List.contains_nil, BEq.rfl, Bool.true_or, eAppO, yVar, yDat, yNil, isRef, ownIx, List.nodup_cons, List.not_mem_nil, List.nodup_nil, toSl, clr, put, hr, hd, endO, backO, pick, Nat.le_refl]
theorem pr_of (a b : Nat) (ha : 1 ≤ a) (ha2 : a ≤ 30) (hb : b ≠ 0) (hb2 : b ≤ 4) : Pr (Rat.normalize (a : Int) b hb) := by
  refine ⟨?_, Sz.normalize hb (show ((a : Int)).natAbs < 2 ^ 5 by omega) (by omega)⟩
  rw [Rat.normalize_eq_mkRat]
  rw [← Rat.divInt_ofNat, Rat.divInt_eq_div]
  have h1 : (0 : Rat) < ((a : Int) : Rat) := by exact_mod_cast (by omega : (0 : Int) < a)
  have h2 : (0 : Rat) < (((b : Nat) : Int) : Rat) := by exact_mod_cast (by omega : (0 : Int) < (b : Int))
  rw [Rat.div_def]
  exact Rat.mul_pos h1 (Rat.inv_pos.mpr h2)
theorem prop_ok (ns : List Int) (h63 : ns.length ≤ 63) (ts : List D) (ht : ts.length < 90000) : ∃ x ts', F__law_some_proportion [.scr ns, .own (.lst ts)] = some (fr x, [.scr ns, .own (.lst ts')]) ∧ Pr x ∧ ts'.length = ts.length + 3 := by
  obtain ⟨d, hd, hm⟩ := pick_ok ns h63 ts (by omega) [.int 1, .int 4, .int 30] (by simp)
  obtain ⟨c, rfl, hc1, hc2⟩ : ∃ c : Int, d = .int c ∧ 0 < c ∧ c ≤ 30 := by
    simp only [List.mem_cons, List.not_mem_nil, or_false] at hm
    rcases hm with rfl | rfl | rfl
    · exact ⟨1, rfl, by decide, by decide⟩
    · exact ⟨4, rfl, by decide, by decide⟩
    · exact ⟨30, rfl, by decide, by decide⟩
  obtain ⟨r, hr, r1, r2⟩ := draw_ok ns h63 (ts ++ [.int 0]) (by simp; omega) c hc1
  obtain ⟨s, hs, s1, s2⟩ := draw_ok ns h63 (ts ++ [.int 0] ++ [.int 0]) (by simp; omega) 4 (by decide)
  obtain ⟨a, ea⟩ : ∃ a : Nat, 1 + r = (a : Int) := ⟨(1 + r).toNat, by omega⟩
  obtain ⟨b, eb⟩ : ∃ b : Nat, 1 + s = (b : Int) := ⟨(1 + s).toNat, by omega⟩
  have hb : b ≠ 0 := by omega
  have key := part_pos (n := 5) (a : Int) b hb (show ((a : Int)).natAbs < 2 ^ 5 by omega) (by omega) (by decide)
  refine ⟨_, ts ++ [.int 0] ++ [.int 0] ++ [.int 0], ?_, pr_of a b (by omega) (by omega) hb (by omega), by simp⟩
  unfold F__law_some_proportion runO B__law_some_proportion
  simp only [sSeq, sIf, sNil, sAsg, sRet, sDrop, cV, cAnd, cOr, cNot, cTrue, eOp2, eOp1, eVar, eC, eApp, aCons, aNil, eIf, eAnd, eOr, eNot, eChain, eNeg, asB, dLt, dLe, dGt, dGe, dSub, dIx, dAbs, dMin, dMax, dLen, dList, dTuple, mkTup, mkLst, gSet, QL.gTup, gTupF, unTup, sPar2, xDat, xOwn, xNil, noScr, sOwn, oLst, iSeq, asSeq, iApp, endOf, List.map_cons, List.map_nil, List.length_cons, List.length_nil, List.length_set, List.replicate, List.cons_append, List.nil_append, List.getElem?_cons_zero, List.getElem?_cons_succ, List.getElem?_nil, Option.bind_some, Option.bind_none, Option.map_some, Option.map_none, List.set_cons_zero, List.set_cons_succ, List.set_nil, Bool.false_eq_true, if_false, if_true, ne_eq, not_false_eq_true, not_true_eq_false, and_self, and_true, true_and, Bool.not_true, Bool.not_false, Bool.and_true, Bool.true_and, Nat.reduceAdd, Nat.reduceSub, Nat.reduceLeDiff, Nat.reduceLT, Nat.reduceEqDiff, Nat.lt_irrefl, decide_true, decide_false, isa1, isa2, isa3, isa4, isa5, isa6, isa7, isa8, atI_0, atI_1, atI_2, atI_3, Option.getD_some, ownL, scrAt, ownsIn, List.contains_cons, List.contains_nil, BEq.rfl, Bool.true_or, eAppO, yVar, yDat, yNil, isRef, ownIx, List.nodup_cons, List.not_mem_nil, List.nodup_nil, toSl, clr, put, hd, hr, hs, dAdd, ea, eb, key, endO, backO, pick, Nat.le_refl]
end QP
set_option Elab.async false
set_option linter.all false
set_option maxRecDepth 100000
set_option maxHeartbeats 1000000
namespace QP
open PySem PySem.Spec PyProof.Rows L2 QL

/-! ### a drawn nest -/
def cst : Nat → Nat
  | 0 => 10
  | l + 1 => 3 * cst l + 10
theorem cst_pos (l : Nat) : 10 ≤ cst l := by cases l <;> simp [cst]
def NestOk (ns : List Int) (l : Nat) (G : List Sl → Option (D × List Sl)) : Prop := ∀ ts : List D, ts.length + cst l < 80000 → ∃ n ts', G [.scr ns, .own (.lst ts), .dat (.int l)] = some (toD n, [.scr ns, .own (.lst ts'), .dat (.int l)]) ∧ Wf l n ∧ ts'.length ≤ ts.length + cst l
theorem parts_loop {ns : List Int} {l : Nat} {G : List Sl → Option (D × List Sl)} (hG : NestOk ns l G) (s3 : Sl) : ∀ (xs : List D) (ts acc : List D), ts.length + xs.length * cst l < 80000 → acc.length + xs.length ≤ 1000 →
    ∃ ms ts', lcM [4] (gSet 4) cTrue (eAppO G (yVar 0 (yVar 1 (yDat (eOp2 dSub (eVar 2) (eC (.int 1))) yNil)))) xs [.scr ns, .own (.lst ts), .dat (.int ((l + 1 : Nat) : Int)), s3, .un] acc = some (acc ++ toDs ms, [.scr ns, .own (.lst ts'), .dat (.int ((l + 1 : Nat) : Int)), s3, .un]) ∧ ms.length = xs.length ∧ Wfs l ms ∧ ts'.length ≤ ts.length + xs.length * cst l
  | [], ts, acc, _, _ => ⟨[], ts, by simp [lcM, toDs], rfl, by unfold Wfs; trivial, by simp⟩
  | x :: xs, ts, acc, ht, ha => by
    have e0 : (x :: xs).length * cst l = xs.length * cst l + cst l := by
      rw [List.length_cons, Nat.succ_mul]
    obtain ⟨n, ts1, h1, w1, l1⟩ := hG ts (by omega)
    obtain ⟨ms, ts2, h2, e2, w2, l2⟩ := parts_loop hG s3 xs ts1 (acc ++ [toD n]) (by omega) (by simp at ha ⊢; omega)
    refine ⟨n :: ms, ts2, ?_, by simp [e2], by unfold Wfs; exact ⟨w1, w2⟩, by omega⟩
    have es : ((l + 1 : Nat) : Int) - 1 = (l : Int) := by omega
    have hlt : acc.length < 1000000 := by simp at ha; omega
    unfold lcM
    simp only [sSeq, sIf, sNil, sAsg, sRet, sDrop, cV, cAnd, cOr, cNot, cTrue, eOp2, eOp1, eVar, eC, eApp, aCons, aNil, eIf, eAnd, eOr, eNot, eChain, eNeg, asB, dLt, dLe, dGt, dGe, dSub, dIx, dAbs, dMin, dMax, dLen, dList, dTuple, mkTup, mkLst, gSet, QL.gTup, gTupF, unTup, sPar2, xDat, xOwn, xNil, noScr, sOwn, oLst, iSeq, asSeq, iApp, endOf, List.map_cons, List.map_nil, List.length_cons, List.length_nil, List.length_set, List.replicate, List.cons_append, List.nil_append, List.getElem?_cons_zero, List.getElem?_cons_succ, List.getElem?_nil, Option.bind_some, Option.bind_none, Option.map_some, Option.map_none, List.set_cons_zero, List.set_cons_succ, List.set_nil, Bool.false_eq_true, if_false, if_true, ne_eq, not_false_eq_true, not_true_eq_false, and_self, and_true, true_and, Bool.not_true, Bool.not_false, Bool.and_true, Bool.true_and, Nat.reduceAdd, Nat.reduceSub, Nat.reduceLeDiff, Nat.reduceLT, Nat.reduceEqDiff, Nat.lt_irrefl, decide_true, decide_false, isa1, isa2, isa3, isa4, isa5, isa6, isa7, isa8, atI_0, atI_1, atI_2, atI_3, Option.getD_some, ownL, scrAt, eAppO, yVar, yDat, yNil, isRef, ownIx, List.nodup_cons, List.not_mem_nil, List.nodup_nil, toSl, clr, put, es, h1, hlt, wipeR, h2, List.append_assoc, toDs]
theorem nest_ok (ns : List Int) (h63 : ns.length ≤ 63) : ∀ (l f : Nat), l < f → NestOk ns l (F__law_some_nest f)
  | _, 0, h, _, _ => absurd h (Nat.not_lt_zero _)
  | 0, f + 1, hf, ts, ht => by
    obtain ⟨x, ts', h1, p1, l1⟩ := prop_ok ns h63 ts (by omega)
    refine ⟨.leaf x, ts', ?_, by unfold Wf; exact p1, by simp [cst, l1]⟩
    have e : dEq (.int ((0 : Nat) : Int)) (.int 0) = some (.bool true) := rfl
    show runO [1] 3 5 (B__law_some_nest (F__law_some_nest f)) _ = _
    unfold runO B__law_some_nest
    simp only [sSeq, sIf, sNil, sAsg, sRet, sDrop, cV, cAnd, cOr, cNot, cTrue, eOp2, eOp1, eVar, eC, eApp, aCons, aNil, eIf, eAnd, eOr, eNot, eChain, eNeg, asB, dLt, dLe, dGt, dGe, dSub, dIx, dAbs, dMin, dMax, dLen, dList, dTuple, mkTup, mkLst, gSet, QL.gTup, gTupF, unTup, sPar2, xDat, xOwn, xNil, noScr, sOwn, oLst, iSeq, asSeq, iApp, endOf, List.map_cons, List.map_nil, List.length_cons, List.length_nil, List.length_set, List.replicate, List.cons_append, List.nil_append, List.getElem?_cons_zero, List.getElem?_cons_succ, List.getElem?_nil, Option.bind_some, Option.bind_none, Option.map_some, Option.map_none, List.set_cons_zero, List.set_cons_succ, List.set_nil, Bool.false_eq_true, if_false, if_true, ne_eq, not_false_eq_true, not_true_eq_false, and_self, and_true, true_and, Bool.not_true, Bool.not_false, Bool.and_true, Bool.true_and, Nat.reduceAdd, Nat.reduceSub, Nat.reduceLeDiff, Nat.reduceLT, Nat.reduceEqDiff, Nat.lt_irrefl, decide_true, decide_false, isa1, isa2, isa3, isa4, isa5, isa6, isa7, isa8, atI_0, atI_1, atI_2, atI_3, Option.getD_some, ownL, scrAt, e, ownsIn, List.contains_cons, List.contains_nil, BEq.rfl, Bool.true_or, eAppO, yVar, yDat, yNil, isRef, ownIx, List.nodup_cons, List.not_mem_nil, List.nodup_nil, toSl, clr, put, h1, endO, backO, pick, Nat.le_refl, toD]
  | l + 1, f + 1, hf, ts, ht => by
    have hG := nest_ok ns h63 l f (by omega)
    have hc : cst (l + 1) = 3 * cst l + 10 := rfl
    have hcp := cst_pos l
    have e : dEq (.int ((l + 1 : Nat) : Int)) (.int 0) = some (.bool false) := by
      rw [dEq_int]
      rw [beq_eq_false_iff_ne.mpr (by omega)]
    obtain ⟨r, hr, r1, r2⟩ := draw_ok ns h63 ts (by omega) 3 (by decide)
    by_cases hz : r = 0
    · subst hz
      obtain ⟨x, ts', h1, p1, l1⟩ := prop_ok ns h63 (ts ++ [.int 0]) (by simp; omega)
      refine ⟨.leaf x, ts', ?_, by unfold Wf; exact p1, by simp at l1; omega⟩
      have e2 : dEq (.int 0) (.int 0) = some (.bool true) := rfl
      show runO [1] 3 5 (B__law_some_nest (F__law_some_nest f)) _ = _
      unfold runO B__law_some_nest
      simp only [sSeq, sIf, sNil, sAsg, sRet, sDrop, cV, cAnd, cOr, cNot, cTrue, eOp2, eOp1, eVar, eC, eApp, aCons, aNil, eIf, eAnd, eOr, eNot, eChain, eNeg, asB, dLt, dLe, dGt, dGe, dSub, dIx, dAbs, dMin, dMax, dLen, dList, dTuple, mkTup, mkLst, gSet, QL.gTup, gTupF, unTup, sPar2, xDat, xOwn, xNil, noScr, sOwn, oLst, iSeq, asSeq, iApp, endOf, List.map_cons, List.map_nil, List.length_cons, List.length_nil, List.length_set, List.replicate, List.cons_append, List.nil_append, List.getElem?_cons_zero, List.getElem?_cons_succ, List.getElem?_nil, Option.bind_some, Option.bind_none, Option.map_some, Option.map_none, List.set_cons_zero, List.set_cons_succ, List.set_nil, Bool.false_eq_true, if_false, if_true, ne_eq, not_false_eq_true, not_true_eq_false, and_self, and_true, true_and, Bool.not_true, Bool.not_false, Bool.and_true, Bool.true_and, Nat.reduceAdd, Nat.reduceSub, Nat.reduceLeDiff, Nat.reduceLT, Nat.reduceEqDiff, Nat.lt_irrefl, decide_true, decide_false, isa1, isa2, isa3, isa4, isa5, isa6, isa7, isa8, atI_0, atI_1, atI_2, atI_3, Option.getD_some, ownL, scrAt, e, e2, ownsIn, List.contains_cons, List.contains_nil, BEq.rfl, Bool.true_or, eAppO, yVar, yDat, yNil, isRef, ownIx, List.nodup_cons, List.not_mem_nil, List.nodup_nil, toSl, clr, put, hr, h1, endO, backO, pick, Nat.le_refl, toD]
    · have e2 : dEq (.int r) (.int 0) = some (.bool false) := by
        rw [dEq_int]
        rw [beq_eq_false_iff_ne.mpr hz]
      obtain ⟨s, hs, s1, s2⟩ := draw_ok ns h63 (ts ++ [.int 0]) (by simp; omega) 2 (by decide)
      have hn : (2 + s).toNat = 2 ∨ (2 + s).toNat = 3 := by omega
      have hil : (intsD 0 (2 + s).toNat).length = (2 + s).toNat := by simp [intsD]
      have hmul : (2 + s).toNat * cst l ≤ 3 * cst l := Nat.mul_le_mul_right _ (by omega)
      obtain ⟨ms, ts2, h2, em, w2, l2⟩ := parts_loop hG .un (intsD 0 (2 + s).toNat) (ts ++ [.int 0] ++ [.int 0]) [] (by rw [hil]; simp; omega) (by rw [hil]; simp; omega)
      rw [hil] at em l2
      simp only [List.length_append, List.length_cons, List.length_nil] at l2
      obtain ⟨d, hd, hm⟩ := pick_ok ns h63 ts2 (by omega) [.str "side", .str "stack"] (by simp)
      obtain ⟨b, rfl⟩ : ∃ b, d = .str (word b) := by
        simp only [List.mem_cons, List.not_mem_nil, or_false] at hm
        rcases hm with rfl | rfl
        · exact ⟨true, rfl⟩
        · exact ⟨false, rfl⟩
      refine ⟨.node b ms, ts2 ++ [.int 0], ?_, by unfold Wf; exact ⟨by omega, by omega, w2⟩, by simp; omega⟩
      have hrg : -(2 ^ 62) ≤ 2 + s ∧ 2 + s < 2 ^ 62 := by omega
      simp only [List.nil_append] at h2
      show runO [1] 3 5 (B__law_some_nest (F__law_some_nest f)) _ = _
      unfold runO B__law_some_nest
      simp only [sSeq, sIf, sNil, sAsg, sRet, sDrop, cV, cAnd, cOr, cNot, cTrue, eOp2, eOp1, eVar, eC, eApp, aCons, aNil, eIf, eAnd, eOr, eNot, eChain, eNeg, asB, dLt, dLe, dGt, dGe, dSub, dIx, dAbs, dMin, dMax, dLen, dList, dTuple, mkTup, mkLst, gSet, QL.gTup, gTupF, unTup, sPar2, xDat, xOwn, xNil, noScr, sOwn, oLst, iSeq, asSeq, iApp, endOf, List.map_cons, List.map_nil, List.length_cons, List.length_nil, List.length_set, List.replicate, List.cons_append, List.nil_append, List.getElem?_cons_zero, List.getElem?_cons_succ, List.getElem?_nil, Option.bind_some, Option.bind_none, Option.map_some, Option.map_none, List.set_cons_zero, List.set_cons_succ, List.set_nil, Bool.false_eq_true, if_false, if_true, ne_eq, not_false_eq_true, not_true_eq_false, and_self, and_true, true_and, Bool.not_true, Bool.not_false, Bool.and_true, Bool.true_and, Nat.reduceAdd, Nat.reduceSub, Nat.reduceLeDiff, Nat.reduceLT, Nat.reduceEqDiff, Nat.lt_irrefl, decide_true, decide_false, isa1, isa2, isa3, isa4, isa5, isa6, isa7, isa8, atI_0, atI_1, atI_2, atI_3, Option.getD_some, ownL, scrAt, e, e2, ownsIn, List.contains_cons, List.contains_nil, BEq.rfl, Bool.true_or, eAppO, yVar, yDat, yNil, isRef, ownIx, List.nodup_cons, List.not_mem_nil, List.nodup_nil, toSl, clr, put, hr, hs, dAdd, rng1, hrg, eLc, oLc, wipeR, h2, backR, keepD, hd, endO, backO, pick, Nat.le_refl, toD]

/-! ### leaves, inner beams -/
mutual
def leaves : Nest → List Rat
  | .leaf x => [x]
  | .node _ ps => leavesS ps
def leavesS : List Nest → List Rat
  | [] => []
  | p :: ps => leaves p ++ leavesS ps
end
mutual
def inner : Nest → Int
  | .leaf _ => 0
  | .node b ps => innerS ps + (if b then 0 else (ps.length : Int) - 1)
def innerS : List Nest → Int
  | [] => 0
  | p :: ps => inner p + innerS ps
end
theorem leavesS_len {d : Nat} : ∀ ps : List Nest, (∀ p ∈ ps, (leaves p).length ≤ 3 ^ d) → (leavesS ps).length ≤ ps.length * 3 ^ d
  | [], _ => by simp [leavesS]
  | p :: ps, h => by
    have h1 := h p List.mem_cons_self
    have h2 := leavesS_len ps fun q hq => h q (List.mem_cons_of_mem _ hq)
    rw [leavesS, List.length_append, List.length_cons, Nat.succ_mul]
    omega
theorem leaves_len : ∀ (d : Nat) (n : Nest), Wf d n → (leaves n).length ≤ 3 ^ d
  | d, .leaf x, _ => by
    rw [leaves]
    exact Nat.one_le_pow _ _ (by decide)
  | 0, .node _ _, w => by unfold Wf at w; exact w.elim
  | d + 1, .node b ps, w => by
    unfold Wf at w
    obtain ⟨_, w2, w3⟩ := w
    have := leavesS_len (d := d) ps fun p hp => leaves_len d p (Wfs_mem w3 p hp)
    rw [leaves, Nat.pow_succ, Nat.mul_comm]
    exact Nat.le_trans this (Nat.mul_le_mul_right _ w2)
theorem leaves_loop {G : List D → Option D} (nd : D) : ∀ (ps : List Nest) (acc : List D) (s2 : Sl), (∀ p ∈ ps, G [toD p] = some (.list ((leaves p).map fr))) → acc.length + (leavesS ps).length ≤ 1000000 →
    ∃ s2', QL.forM (gSet 2) (sDrop (eExtend 1 (eApp G (aCons (eVar 2) aNil)))) (toDs ps) [.dat nd, .own (.lst acc), s2] = some (.nx, [.dat nd, .own (.lst (acc ++ (leavesS ps).map fr)), s2'])
  | [], acc, s2, _, _ => ⟨s2, by simp [toDs, QL.forM, leavesS]⟩
  | p :: ps, acc, s2, h, hl => by
    rw [leavesS, List.length_append] at hl
    obtain ⟨s2', h2⟩ := leaves_loop nd ps (acc ++ (leaves p).map fr) (.dat (toD p)) (fun q hq => h q (List.mem_cons_of_mem _ hq)) (by simp; omega)
    refine ⟨s2', ?_⟩
    have h1 := h p List.mem_cons_self
    have hle : acc.length + ((leaves p).map fr).length ≤ 1000000 := by simp; omega
    rw [toDs]
    unfold QL.forM
    simp only [sSeq, sIf, sNil, sAsg, sRet, sDrop, cV, cAnd, cOr, cNot, cTrue, eOp2, eOp1, eVar, eC, eApp, aCons, aNil, eIf, eAnd, eOr, eNot, eChain, eNeg, asB, dLt, dLe, dGt, dGe, dSub, dIx, dAbs, dMin, dMax, dLen, dList, dTuple, mkTup, mkLst, gSet, QL.gTup, gTupF, unTup, sPar2, xDat, xOwn, xNil, noScr, sOwn, oLst, iSeq, asSeq, iApp, endOf, List.map_cons, List.map_nil, List.length_cons, List.length_nil, List.length_set, List.replicate, List.cons_append, List.nil_append, List.getElem?_cons_zero, List.getElem?_cons_succ, List.getElem?_nil, Option.bind_some, Option.bind_none, Option.map_some, Option.map_none, List.set_cons_zero, List.set_cons_succ, List.set_nil, Bool.false_eq_true, if_false, if_true, ne_eq, not_false_eq_true, not_true_eq_false, and_self, and_true, true_and, Bool.not_true, Bool.not_false, Bool.and_true, Bool.true_and, Nat.reduceAdd, Nat.reduceSub, Nat.reduceLeDiff, Nat.reduceLT, Nat.reduceEqDiff, Nat.lt_irrefl, decide_true, decide_false, isa1, isa2, isa3, isa4, isa5, isa6, isa7, isa8, atI_0, atI_1, atI_2, atI_3, Option.getD_some, ownL, scrAt, eExtend, h1, hle, h2, leavesS, List.map_append, List.append_assoc]
theorem F__law_leaves_eq : ∀ (d f : Nat) (n : Nest), d < f → Wf d n → d ≤ 10 → F__law_leaves f [toD n] = some (.list ((leaves n).map fr))
  | _, 0, _, h, _, _ => absurd h (Nat.not_lt_zero _)
  | d, f + 1, .leaf x, _, _, _ => by
    show runF 1 3 (B__law_leaves (F__law_leaves f)) _ = _
    unfold runF B__law_leaves
    simp only [sSeq, sIf, sNil, sAsg, sRet, sDrop, cV, cAnd, cOr, cNot, cTrue, eOp2, eOp1, eVar, eC, eApp, aCons, aNil, eIf, eAnd, eOr, eNot, eChain, eNeg, asB, dLt, dLe, dGt, dGe, dSub, dIx, dAbs, dMin, dMax, dLen, dList, dTuple, mkTup, mkLst, gSet, QL.gTup, gTupF, unTup, sPar2, xDat, xOwn, xNil, noScr, sOwn, oLst, iSeq, asSeq, iApp, endOf, List.map_cons, List.map_nil, List.length_cons, List.length_nil, List.length_set, List.replicate, List.cons_append, List.nil_append, List.getElem?_cons_zero, List.getElem?_cons_succ, List.getElem?_nil, Option.bind_some, Option.bind_none, Option.map_some, Option.map_none, List.set_cons_zero, List.set_cons_succ, List.set_nil, Bool.false_eq_true, if_false, if_true, ne_eq, not_false_eq_true, not_true_eq_false, and_self, and_true, true_and, Bool.not_true, Bool.not_false, Bool.and_true, Bool.true_and, Nat.reduceAdd, Nat.reduceSub, Nat.reduceLeDiff, Nat.reduceLT, Nat.reduceEqDiff, Nat.lt_irrefl, decide_true, decide_false, isa1, isa2, isa3, isa4, isa5, isa6, isa7, isa8, atI_0, atI_1, atI_2, atI_3, Option.getD_some, ownL, scrAt, toD, fr, leaves]
  | 0, f + 1, .node _ _, _, w, _ => by unfold Wf at w; exact w.elim
  | d + 1, f + 1, .node b ps, hf, w, hd => by
    have w0 := w
    unfold Wf at w
    obtain ⟨_, w2, w3⟩ := w
    have hb : (leavesS ps).length ≤ 1000000 := by
      have := leaves_len (d + 1) _ w0
      rw [leaves] at this
      exact Nat.le_trans this (Nat.le_trans (Nat.pow_le_pow_right (by decide) (show d + 1 ≤ 10 by omega)) (by decide))
    obtain ⟨s2', h2⟩ := leaves_loop (toD (.node b ps)) ps [] .un (fun p hp => F__law_leaves_eq d f p (by omega) (Wfs_mem w3 p hp) (by omega)) (by simpa using hb)
    simp only [toD, List.nil_append] at h2
    show runF 1 3 (B__law_leaves (F__law_leaves f)) _ = _
    unfold runF B__law_leaves
    simp only [sSeq, sIf, sNil, sAsg, sRet, sDrop, cV, cAnd, cOr, cNot, cTrue, eOp2, eOp1, eVar, eC, eApp, aCons, aNil, eIf, eAnd, eOr, eNot, eChain, eNeg, asB, dLt, dLe, dGt, dGe, dSub, dIx, dAbs, dMin, dMax, dLen, dList, dTuple, mkTup, mkLst, gSet, QL.gTup, gTupF, unTup, sPar2, xDat, xOwn, xNil, noScr, sOwn, oLst, iSeq, asSeq, iApp, endOf, List.map_cons, List.map_nil, List.length_cons, List.length_nil, List.length_set, List.replicate, List.cons_append, List.nil_append, List.getElem?_cons_zero, List.getElem?_cons_succ, List.getElem?_nil, Option.bind_some, Option.bind_none, Option.map_some, Option.map_none, List.set_cons_zero, List.set_cons_succ, List.set_nil, Bool.false_eq_true, if_false, if_true, ne_eq, not_false_eq_true, not_true_eq_false, and_self, and_true, true_and, Bool.not_true, Bool.not_false, Bool.and_true, Bool.true_and, Nat.reduceAdd, Nat.reduceSub, Nat.reduceLeDiff, Nat.reduceLT, Nat.reduceEqDiff, Nat.lt_irrefl, decide_true, decide_false, isa1, isa2, isa3, isa4, isa5, isa6, isa7, isa8, atI_0, atI_1, atI_2, atI_3, Option.getD_some, ownL, scrAt, toD, leaves, sFor, Nat.zero_le, h2]
theorem intsOf_map : ∀ ns : List Int, intsOf (ns.map PyData.int) = some ns
  | [] => rfl
  | n :: ns => by rw [List.map_cons, intsOf, intsOf_map ns]; rfl
theorem innerS_sum : ∀ ps : List Nest, (ps.map inner).sum = innerS ps
  | [] => rfl
  | p :: ps => by rw [List.map_cons, List.sum_cons, innerS_sum ps, innerS]
theorem F__law_inner_eq : ∀ (d f : Nat) (n : Nest), d < f → Wf d n → F__law_inner_beams f [toD n] = some (.int (inner n))
  | _, 0, _, h, _ => absurd h (Nat.not_lt_zero _)
  | d, f + 1, .leaf x, _, _ => by
    show runF 1 2 (B__law_inner_beams (F__law_inner_beams f)) _ = _
    unfold runF B__law_inner_beams
    simp only [sSeq, sIf, sNil, sAsg, sRet, sDrop, cV, cAnd, cOr, cNot, cTrue, eOp2, eOp1, eVar, eC, eApp, aCons, aNil, eIf, eAnd, eOr, eNot, eChain, eNeg, asB, dLt, dLe, dGt, dGe, dSub, dIx, dAbs, dMin, dMax, dLen, dList, dTuple, mkTup, mkLst, gSet, QL.gTup, gTupF, unTup, sPar2, xDat, xOwn, xNil, noScr, sOwn, oLst, iSeq, asSeq, iApp, endOf, List.map_cons, List.map_nil, List.length_cons, List.length_nil, List.length_set, List.replicate, List.cons_append, List.nil_append, List.getElem?_cons_zero, List.getElem?_cons_succ, List.getElem?_nil, Option.bind_some, Option.bind_none, Option.map_some, Option.map_none, List.set_cons_zero, List.set_cons_succ, List.set_nil, Bool.false_eq_true, if_false, if_true, ne_eq, not_false_eq_true, not_true_eq_false, and_self, and_true, true_and, Bool.not_true, Bool.not_false, Bool.and_true, Bool.true_and, Nat.reduceAdd, Nat.reduceSub, Nat.reduceLeDiff, Nat.reduceLT, Nat.reduceEqDiff, Nat.lt_irrefl, decide_true, decide_false, isa1, isa2, isa3, isa4, isa5, isa6, isa7, isa8, atI_0, atI_1, atI_2, atI_3, Option.getD_some, ownL, scrAt, toD, fr, inner]
  | 0, f + 1, .node _ _, _, w => by unfold Wf at w; exact w.elim
  | d + 1, f + 1, .node b ps, hf, w => by
    unfold Wf at w
    obtain ⟨_, w2, w3⟩ := w
    have key := eLc_pure (i := 1) (ρ := [.dat (toD (.node b ps)), .un]) (it := iSeq (eOp2 dIx (eVar 0) (eC (.int 1)))) (m := eApp (F__law_inner_beams f) (aCons (eVar 1) aNil)) (g := toD) (h := fun p => .int (inner p)) ps
      (by simp only [sSeq, sIf, sNil, sAsg, sRet, sDrop, cV, cAnd, cOr, cNot, cTrue, eOp2, eOp1, eVar, eC, eApp, aCons, aNil, eIf, eAnd, eOr, eNot, eChain, eNeg, asB, dLt, dLe, dGt, dGe, dSub, dIx, dAbs, dMin, dMax, dLen, dList, dTuple, mkTup, mkLst, gSet, QL.gTup, gTupF, unTup, sPar2, xDat, xOwn, xNil, noScr, sOwn, oLst, iSeq, asSeq, iApp, endOf, List.map_cons, List.map_nil, List.length_cons, List.length_nil, List.length_set, List.replicate, List.cons_append, List.nil_append, List.getElem?_cons_zero, List.getElem?_cons_succ, List.getElem?_nil, Option.bind_some, Option.bind_none, Option.map_some, Option.map_none, List.set_cons_zero, List.set_cons_succ, List.set_nil, Bool.false_eq_true, if_false, if_true, ne_eq, not_false_eq_true, not_true_eq_false, and_self, and_true, true_and, Bool.not_true, Bool.not_false, Bool.and_true, Bool.true_and, Nat.reduceAdd, Nat.reduceSub, Nat.reduceLeDiff, Nat.reduceLT, Nat.reduceEqDiff, Nat.lt_irrefl, decide_true, decide_false, isa1, isa2, isa3, isa4, isa5, isa6, isa7, isa8, atI_0, atI_1, atI_2, atI_3, Option.getD_some, ownL, scrAt, toD, toDs_map]) (.inl rfl) (by omega) (fun p hp => by
        have := F__law_inner_eq d f p (by omega) (Wfs_mem w3 p hp)
        simp only [sSeq, sIf, sNil, sAsg, sRet, sDrop, cV, cAnd, cOr, cNot, cTrue, eOp2, eOp1, eVar, eC, eApp, aCons, aNil, eIf, eAnd, eOr, eNot, eChain, eNeg, asB, dLt, dLe, dGt, dGe, dSub, dIx, dAbs, dMin, dMax, dLen, dList, dTuple, mkTup, mkLst, gSet, QL.gTup, gTupF, unTup, sPar2, xDat, xOwn, xNil, noScr, sOwn, oLst, iSeq, asSeq, iApp, endOf, List.map_cons, List.map_nil, List.length_cons, List.length_nil, List.length_set, List.replicate, List.cons_append, List.nil_append, List.getElem?_cons_zero, List.getElem?_cons_succ, List.getElem?_nil, Option.bind_some, Option.bind_none, Option.map_some, Option.map_none, List.set_cons_zero, List.set_cons_succ, List.set_nil, Bool.false_eq_true, if_false, if_true, ne_eq, not_false_eq_true, not_true_eq_false, and_self, and_true, true_and, Bool.not_true, Bool.not_false, Bool.and_true, Bool.true_and, Nat.reduceAdd, Nat.reduceSub, Nat.reduceLeDiff, Nat.reduceLT, Nat.reduceEqDiff, Nat.lt_irrefl, decide_true, decide_false, isa1, isa2, isa3, isa4, isa5, isa6, isa7, isa8, atI_0, atI_1, atI_2, atI_3, Option.getD_some, ownL, scrAt, this])
    have e1 : ps.map (fun p => PyData.int (inner p)) = (ps.map inner).map PyData.int := by simp
    rw [e1] at key
    have hl : (toDs ps).length = ps.length := by rw [toDs_map, List.length_map]
    simp only [toD] at key
    show runF 1 2 (B__law_inner_beams (F__law_inner_beams f)) _ = _
    unfold runF B__law_inner_beams
    simp only [sSeq, sIf, sNil, sAsg, sRet, sDrop, cV, cAnd, cOr, cNot, cTrue, eOp2, eOp1, eVar, eC, eApp, aCons, aNil, eIf, eAnd, eOr, eNot, eChain, eNeg, asB, dLt, dLe, dGt, dGe, dSub, dIx, dAbs, dMin, dMax, dLen, dList, dTuple, mkTup, mkLst, gSet, QL.gTup, gTupF, unTup, sPar2, xDat, xOwn, xNil, noScr, sOwn, oLst, iSeq, asSeq, iApp, endOf, List.map_cons, List.map_nil, List.length_cons, List.length_nil, List.length_set, List.replicate, List.cons_append, List.nil_append, List.getElem?_cons_zero, List.getElem?_cons_succ, List.getElem?_nil, Option.bind_some, Option.bind_none, Option.map_some, Option.map_none, List.set_cons_zero, List.set_cons_succ, List.set_nil, Bool.false_eq_true, if_false, if_true, ne_eq, not_false_eq_true, not_true_eq_false, and_self, and_true, true_and, Bool.not_true, Bool.not_false, Bool.and_true, Bool.true_and, Nat.reduceAdd, Nat.reduceSub, Nat.reduceLeDiff, Nat.reduceLT, Nat.reduceEqDiff, Nat.lt_irrefl, decide_true, decide_false, isa1, isa2, isa3, isa4, isa5, isa6, isa7, isa8, atI_0, atI_1, atI_2, atI_3, Option.getD_some, ownL, scrAt, toD, inner, key, dSum, intsOf_map, innerS_sum, dEq_word2, hl]
    cases b <;> simp only [sSeq, sIf, sNil, sAsg, sRet, sDrop, cV, cAnd, cOr, cNot, cTrue, eOp2, eOp1, eVar, eC, eApp, aCons, aNil, eIf, eAnd, eOr, eNot, eChain, eNeg, asB, dLt, dLe, dGt, dGe, dSub, dIx, dAbs, dMin, dMax, dLen, dList, dTuple, mkTup, mkLst, gSet, QL.gTup, gTupF, unTup, sPar2, xDat, xOwn, xNil, noScr, sOwn, oLst, iSeq, asSeq, iApp, endOf, List.map_cons, List.map_nil, List.length_cons, List.length_nil, List.length_set, List.replicate, List.cons_append, List.nil_append, List.getElem?_cons_zero, List.getElem?_cons_succ, List.getElem?_nil, Option.bind_some, Option.bind_none, Option.map_some, Option.map_none, List.set_cons_zero, List.set_cons_succ, List.set_nil, Bool.false_eq_true, if_false, if_true, ne_eq, not_false_eq_true, not_true_eq_false, and_self, and_true, true_and, Bool.not_true, Bool.not_false, Bool.and_true, Bool.true_and, Nat.reduceAdd, Nat.reduceSub, Nat.reduceLeDiff, Nat.reduceLT, Nat.reduceEqDiff, Nat.lt_irrefl, decide_true, decide_false, isa1, isa2, isa3, isa4, isa5, isa6, isa7, isa8, atI_0, atI_1, atI_2, atI_3, Option.getD_some, ownL, scrAt, dAdd, Int.add_zero]

/-! ### the drawn nest has a plan -/
theorem Wf_mono : ∀ (d e : Nat) (n : Nest), d ≤ e → Wf d n → Wf e n
  | d, e, .leaf x, _, w => by unfold Wf at w ⊢; exact w
  | 0, e, .node _ _, _, w => by unfold Wf at w; exact w.elim
  | d + 1, 0, .node _ _, h, w => by omega
  | d + 1, e + 1, .node b ps, h, w => by
    unfold Wf at w ⊢
    refine ⟨w.1, w.2.1, ?_⟩
    have : ∀ qs : List Nest, (∀ q ∈ qs, Wf e q) → Wfs e qs := fun qs => by
      induction qs with
      | nil => intro _; unfold Wfs; trivial
      | cons q qs ih => intro h; unfold Wfs; exact ⟨h q List.mem_cons_self, ih fun z hz => h z (List.mem_cons_of_mem _ hz)⟩
    exact this ps fun q hq => Wf_mono d e q (by omega) (Wfs_mem w.2.2 q hq)
theorem good_ok (ns : List Int) (h63 : ns.length ≤ 63) (ts : List D) (ht : ts.length < 1000) : ∃ n ts', F__law_good_nest [.scr ns, .own (.lst ts)] = some (toD n, [.scr ns, .own (.lst ts')]) ∧ Wf 3 n ∧ (leaves n).length ≤ 8 ∧ inner n ≤ 4 ∧ ts'.length ≤ ts.length + 2000 := by
  have c3 : cst 3 = 400 := rfl
  have c1 : cst 1 = 40 := rfl
  obtain ⟨n, ts1, h1, w1, l1⟩ := nest_ok ns h63 3 4 (by decide) ts (by omega)
  have h1' : F__law_some_nest 4 [.scr ns, .own (.lst ts), .dat (.int 3)] = some (toD n, [.scr ns, .own (.lst ts1), .dat (.int 3)]) := h1
  have hl := F__law_leaves_eq 3 4 n (by decide) w1 (by decide)
  have hi := F__law_inner_eq 3 4 n (by decide) w1
  by_cases hc : 8 < (leaves n).length ∨ 4 < inner n
  · obtain ⟨n2, ts2, h2, w2, l2⟩ := nest_ok ns h63 1 4 (by decide) ts1 (by omega)
    have h2' : F__law_some_nest 4 [.scr ns, .own (.lst ts1), .dat (.int 1)] = some (toD n2, [.scr ns, .own (.lst ts2), .dat (.int 1)]) := h2
    have hle := leaves_len 1 n2 w2
    have hin : inner n2 ≤ 4 := by
      cases n2 with
      | leaf x => rw [inner]; decide
      | node b ps =>
        unfold Wf at w2
        have hz : ∀ qs : List Nest, Wfs 0 qs → innerS qs = 0 := fun qs => by
          induction qs with
          | nil => intro _; rfl
          | cons q qs ih =>
            intro w
            unfold Wfs at w
            rw [innerS, ih w.2]
            cases q with
            | leaf x => rfl
            | node _ _ => have := w.1; unfold Wf at this; exact this.elim
        rw [inner, hz ps w2.2.2]
        split <;> omega
    refine ⟨n2, ts2, ?_, Wf_mono 1 3 n2 (by decide) w2, by omega, hin, by omega⟩
    have d1 : (decide ((8 : Int) < (((leaves n).map fr).length : Int)) = true) ∨ (decide ((8 : Int) < (((leaves n).map fr).length : Int)) = false ∧ decide (4 < inner n) = true) := by
      rw [List.length_map]
      by_cases z : (8 : Int) < ((leaves n).length : Int)
      · exact .inl (decide_eq_true z)
      · exact .inr ⟨decide_eq_false z, decide_eq_true (by omega)⟩
    unfold F__law_good_nest runO B__law_good_nest
    rcases d1 with d1 | ⟨d1, d2⟩
    · simp only [sSeq, sIf, sNil, sAsg, sRet, sDrop, cV, cAnd, cOr, cNot, cTrue, eOp2, eOp1, eVar, eC, eApp, aCons, aNil, eIf, eAnd, eOr, eNot, eChain, eNeg, asB, dLt, dLe, dGt, dGe, dSub, dIx, dAbs, dMin, dMax, dLen, dList, dTuple, mkTup, mkLst, gSet, QL.gTup, gTupF, unTup, sPar2, xDat, xOwn, xNil, noScr, sOwn, oLst, iSeq, asSeq, iApp, endOf, List.map_cons, List.map_nil, List.length_cons, List.length_nil, List.length_set, List.replicate, List.cons_append, List.nil_append, List.getElem?_cons_zero, List.getElem?_cons_succ, List.getElem?_nil, Option.bind_some, Option.bind_none, Option.map_some, Option.map_none, List.set_cons_zero, List.set_cons_succ, List.set_nil, Bool.false_eq_true, if_false, if_true, ne_eq, not_false_eq_true, not_true_eq_false, and_self, and_true, true_and, Bool.not_true, Bool.not_false, Bool.and_true, Bool.true_and, Nat.reduceAdd, Nat.reduceSub, Nat.reduceLeDiff, Nat.reduceLT, Nat.reduceEqDiff, Nat.lt_irrefl, decide_true, decide_false, isa1, isa2, isa3, isa4, isa5, isa6, isa7, isa8, atI_0, atI_1, atI_2, atI_3, Option.getD_some, ownL, scrAt, ownsIn, List.contains_cons, List.contains_nil, BEq.rfl, Bool.true_or, eAppO, yVar, yDat, yNil, isRef, ownIx, List.nodup_cons, List.not_mem_nil, List.nodup_nil, toSl, clr, put, h1', h2', hl, hi, d1, endO, backO, pick, Nat.le_refl]
    · simp only [sSeq, sIf, sNil, sAsg, sRet, sDrop, cV, cAnd, cOr, cNot, cTrue, eOp2, eOp1, eVar, eC, eApp, aCons, aNil, eIf, eAnd, eOr, eNot, eChain, eNeg, asB, dLt, dLe, dGt, dGe, dSub, dIx, dAbs, dMin, dMax, dLen, dList, dTuple, mkTup, mkLst, gSet, QL.gTup, gTupF, unTup, sPar2, xDat, xOwn, xNil, noScr, sOwn, oLst, iSeq, asSeq, iApp, endOf, List.map_cons, List.map_nil, List.length_cons, List.length_nil, List.length_set, List.replicate, List.cons_append, List.nil_append, List.getElem?_cons_zero, List.getElem?_cons_succ, List.getElem?_nil, Option.bind_some, Option.bind_none, Option.map_some, Option.map_none, List.set_cons_zero, List.set_cons_succ, List.set_nil, Bool.false_eq_true, if_false, if_true, ne_eq, not_false_eq_true, not_true_eq_false, and_self, and_true, true_and, Bool.not_true, Bool.not_false, Bool.and_true, Bool.true_and, Nat.reduceAdd, Nat.reduceSub, Nat.reduceLeDiff, Nat.reduceLT, Nat.reduceEqDiff, Nat.lt_irrefl, decide_true, decide_false, isa1, isa2, isa3, isa4, isa5, isa6, isa7, isa8, atI_0, atI_1, atI_2, atI_3, Option.getD_some, ownL, scrAt, ownsIn, List.contains_cons, List.contains_nil, BEq.rfl, Bool.true_or, eAppO, yVar, yDat, yNil, isRef, ownIx, List.nodup_cons, List.not_mem_nil, List.nodup_nil, toSl, clr, put, h1', h2', hl, hi, d1, d2, endO, backO, pick, Nat.le_refl]
  · have hc1 : ¬ (8 < (leaves n).length) := fun z => hc (.inl z)
    have hc2 : ¬ (4 < inner n) := fun z => hc (.inr z)
    refine ⟨n, ts1, ?_, w1, by omega, by omega, by omega⟩
    have d1 : decide ((8 : Int) < (((leaves n).map fr).length : Int)) = false := decide_eq_false (by rw [List.length_map]; omega)
    unfold F__law_good_nest runO B__law_good_nest
    simp only [sSeq, sIf, sNil, sAsg, sRet, sDrop, cV, cAnd, cOr, cNot, cTrue, eOp2, eOp1, eVar, eC, eApp, aCons, aNil, eIf, eAnd, eOr, eNot, eChain, eNeg, asB, dLt, dLe, dGt, dGe, dSub, dIx, dAbs, dMin, dMax, dLen, dList, dTuple, mkTup, mkLst, gSet, QL.gTup, gTupF, unTup, sPar2, xDat, xOwn, xNil, noScr, sOwn, oLst, iSeq, asSeq, iApp, endOf, List.map_cons, List.map_nil, List.length_cons, List.length_nil, List.length_set, List.replicate, List.cons_append, List.nil_append, List.getElem?_cons_zero, List.getElem?_cons_succ, List.getElem?_nil, Option.bind_some, Option.bind_none, Option.map_some, Option.map_none, List.set_cons_zero, List.set_cons_succ, List.set_nil, Bool.false_eq_true, if_false, if_true, ne_eq, not_false_eq_true, not_true_eq_false, and_self, and_true, true_and, Bool.not_true, Bool.not_false, Bool.and_true, Bool.true_and, Nat.reduceAdd, Nat.reduceSub, Nat.reduceLeDiff, Nat.reduceLT, Nat.reduceEqDiff, Nat.lt_irrefl, decide_true, decide_false, isa1, isa2, isa3, isa4, isa5, isa6, isa7, isa8, atI_0, atI_1, atI_2, atI_3, Option.getD_some, ownL, scrAt, ownsIn, List.contains_cons, List.contains_nil, BEq.rfl, Bool.true_or, eAppO, yVar, yDat, yNil, isRef, ownIx, List.nodup_cons, List.not_mem_nil, List.nodup_nil, toSl, clr, put, h1', hl, hi, d1, decide_eq_false hc2, endO, backO, pick, Nat.le_refl]
end QP
set_option Elab.async false
set_option linter.all false
set_option maxRecDepth 100000
set_option maxHeartbeats 1000000
namespace QP
open PySem PySem.Spec PyProof.Rows L2 QL

/-! ### what is a proportion -/
theorem ne22 : dNe (.int ((2 : Nat) : Int)) (.int 2) = some (.bool false) := rfl
theorem any_int (i : Int) : F_is_any_whole [.int i] = some (.bool true) := by
  unfold F_is_any_whole runF B_is_any_whole
  simp only [sSeq, sIf, sNil, sAsg, sRet, sDrop, cV, cAnd, cOr, cNot, cTrue, eOp2, eOp1, eVar, eC, eApp, aCons, aNil, eIf, eAnd, eOr, eNot, eChain, eNeg, asB, dLt, dLe, dGt, dGe, dSub, dIx, dAbs, dMin, dMax, dLen, dList, dTuple, mkTup, mkLst, gSet, QL.gTup, gTupF, unTup, sPar2, xDat, xOwn, xNil, noScr, sOwn, oLst, iSeq, asSeq, iApp, endOf, List.map_cons, List.map_nil, List.length_cons, List.length_nil, List.length_set, List.replicate, List.cons_append, List.nil_append, List.getElem?_cons_zero, List.getElem?_cons_succ, List.getElem?_nil, Option.bind_some, Option.bind_none, Option.map_some, Option.map_none, List.set_cons_zero, List.set_cons_succ, List.set_nil, Bool.false_eq_true, if_false, if_true, ne_eq, not_false_eq_true, not_true_eq_false, and_self, and_true, true_and, Bool.not_true, Bool.not_false, Bool.and_true, Bool.true_and, Nat.reduceAdd, Nat.reduceSub, Nat.reduceLeDiff, Nat.reduceLT, Nat.reduceEqDiff, Nat.lt_irrefl, decide_true, decide_false, isa1, isa2, isa3, isa4, isa5, isa6, isa7, isa8, atI_0, atI_1, atI_2, atI_3, Option.getD_some, ownL, scrAt]
theorem any_str (i : Str) : F_is_any_whole [.str i] = some (.bool false) := by
  unfold F_is_any_whole runF B_is_any_whole
  simp only [sSeq, sIf, sNil, sAsg, sRet, sDrop, cV, cAnd, cOr, cNot, cTrue, eOp2, eOp1, eVar, eC, eApp, aCons, aNil, eIf, eAnd, eOr, eNot, eChain, eNeg, asB, dLt, dLe, dGt, dGe, dSub, dIx, dAbs, dMin, dMax, dLen, dList, dTuple, mkTup, mkLst, gSet, QL.gTup, gTupF, unTup, sPar2, xDat, xOwn, xNil, noScr, sOwn, oLst, iSeq, asSeq, iApp, endOf, List.map_cons, List.map_nil, List.length_cons, List.length_nil, List.length_set, List.replicate, List.cons_append, List.nil_append, List.getElem?_cons_zero, List.getElem?_cons_succ, List.getElem?_nil, Option.bind_some, Option.bind_none, Option.map_some, Option.map_none, List.set_cons_zero, List.set_cons_succ, List.set_nil, Bool.false_eq_true, if_false, if_true, ne_eq, not_false_eq_true, not_true_eq_false, and_self, and_true, true_and, Bool.not_true, Bool.not_false, Bool.and_true, Bool.true_and, Nat.reduceAdd, Nat.reduceSub, Nat.reduceLeDiff, Nat.reduceLT, Nat.reduceEqDiff, Nat.lt_irrefl, decide_true, decide_false, isa1, isa2, isa3, isa4, isa5, isa6, isa7, isa8, atI_0, atI_1, atI_2, atI_3, Option.getD_some, ownL, scrAt]
theorem any_tup (i : List D) : F_is_any_whole [.tuple i] = some (.bool false) := by
  unfold F_is_any_whole runF B_is_any_whole
  simp only [sSeq, sIf, sNil, sAsg, sRet, sDrop, cV, cAnd, cOr, cNot, cTrue, eOp2, eOp1, eVar, eC, eApp, aCons, aNil, eIf, eAnd, eOr, eNot, eChain, eNeg, asB, dLt, dLe, dGt, dGe, dSub, dIx, dAbs, dMin, dMax, dLen, dList, dTuple, mkTup, mkLst, gSet, QL.gTup, gTupF, unTup, sPar2, xDat, xOwn, xNil, noScr, sOwn, oLst, iSeq, asSeq, iApp, endOf, List.map_cons, List.map_nil, List.length_cons, List.length_nil, List.length_set, List.replicate, List.cons_append, List.nil_append, List.getElem?_cons_zero, List.getElem?_cons_succ, List.getElem?_nil, Option.bind_some, Option.bind_none, Option.map_some, Option.map_none, List.set_cons_zero, List.set_cons_succ, List.set_nil, Bool.false_eq_true, if_false, if_true, ne_eq, not_false_eq_true, not_true_eq_false, and_self, and_true, true_and, Bool.not_true, Bool.not_false, Bool.and_true, Bool.true_and, Nat.reduceAdd, Nat.reduceSub, Nat.reduceLeDiff, Nat.reduceLT, Nat.reduceEqDiff, Nat.lt_irrefl, decide_true, decide_false, isa1, isa2, isa3, isa4, isa5, isa6, isa7, isa8, atI_0, atI_1, atI_2, atI_3, Option.getD_some, ownL, scrAt]
theorem frac_true (x : Rat) : F_is_fraction [fr x] = some (.bool true) := by
  have hd : decide ((0 : Int) < (x.den : Int)) = true := decide_eq_true (by have := x.den_nz; omega)
  have hc := F_common_eq x.num.natAbs x.den
  have hg : Nat.gcd x.num.natAbs x.den = 1 := x.reduced
  rw [hg] at hc
  have hab : (if x.num < 0 then -x.num else x.num) = (x.num.natAbs : Int) := abs_nat _
  have e1 : dEq (.int ((1 : Nat) : Int)) (.int 1) = some (.bool true) := rfl
  unfold F_is_fraction runF B_is_fraction fr
  simp only [sSeq, sIf, sNil, sAsg, sRet, sDrop, cV, cAnd, cOr, cNot, cTrue, eOp2, eOp1, eVar, eC, eApp, aCons, aNil, eIf, eAnd, eOr, eNot, eChain, eNeg, asB, dLt, dLe, dGt, dGe, dSub, dIx, dAbs, dMin, dMax, dLen, dList, dTuple, mkTup, mkLst, gSet, QL.gTup, gTupF, unTup, sPar2, xDat, xOwn, xNil, noScr, sOwn, oLst, iSeq, asSeq, iApp, endOf, List.map_cons, List.map_nil, List.length_cons, List.length_nil, List.length_set, List.replicate, List.cons_append, List.nil_append, List.getElem?_cons_zero, List.getElem?_cons_succ, List.getElem?_nil, Option.bind_some, Option.bind_none, Option.map_some, Option.map_none, List.set_cons_zero, List.set_cons_succ, List.set_nil, Bool.false_eq_true, if_false, if_true, ne_eq, not_false_eq_true, not_true_eq_false, and_self, and_true, true_and, Bool.not_true, Bool.not_false, Bool.and_true, Bool.true_and, Nat.reduceAdd, Nat.reduceSub, Nat.reduceLeDiff, Nat.reduceLT, Nat.reduceEqDiff, Nat.lt_irrefl, decide_true, decide_false, isa1, isa2, isa3, isa4, isa5, isa6, isa7, isa8, atI_0, atI_1, atI_2, atI_3, Option.getD_some, ownL, scrAt, ne22, eLc, oLc, wipeR, lcM, any_int, backR, keepD, dAll, bools, List.all_cons, List.all_nil, id, Nat.zero_lt_succ, Nat.reduceLT, hd, hab, hc, e1]
theorem frac_node (w : Str) (ps : List D) : F_is_fraction [.tuple [.str w, .tuple ps]] = some (.bool false) := by
  unfold F_is_fraction runF B_is_fraction
  simp only [sSeq, sIf, sNil, sAsg, sRet, sDrop, cV, cAnd, cOr, cNot, cTrue, eOp2, eOp1, eVar, eC, eApp, aCons, aNil, eIf, eAnd, eOr, eNot, eChain, eNeg, asB, dLt, dLe, dGt, dGe, dSub, dIx, dAbs, dMin, dMax, dLen, dList, dTuple, mkTup, mkLst, gSet, QL.gTup, gTupF, unTup, sPar2, xDat, xOwn, xNil, noScr, sOwn, oLst, iSeq, asSeq, iApp, endOf, List.map_cons, List.map_nil, List.length_cons, List.length_nil, List.length_set, List.replicate, List.cons_append, List.nil_append, List.getElem?_cons_zero, List.getElem?_cons_succ, List.getElem?_nil, Option.bind_some, Option.bind_none, Option.map_some, Option.map_none, List.set_cons_zero, List.set_cons_succ, List.set_nil, Bool.false_eq_true, if_false, if_true, ne_eq, not_false_eq_true, not_true_eq_false, and_self, and_true, true_and, Bool.not_true, Bool.not_false, Bool.and_true, Bool.true_and, Nat.reduceAdd, Nat.reduceSub, Nat.reduceLeDiff, Nat.reduceLT, Nat.reduceEqDiff, Nat.lt_irrefl, decide_true, decide_false, isa1, isa2, isa3, isa4, isa5, isa6, isa7, isa8, atI_0, atI_1, atI_2, atI_3, Option.getD_some, ownL, scrAt, ne22, eLc, oLc, wipeR, lcM, any_str, any_tup, backR, keepD, dAll, bools, List.all_cons, List.all_nil, id, Nat.zero_lt_succ, Nat.reduceLT, Bool.false_and]
theorem num_pos {x : Rat} (h : 0 < x) : 0 < x.num := by
  have h1 : 0 ≤ x.num := Rat.num_nonneg.mpr (Rat.le_of_lt h)
  have h2 : x.num ≠ 0 := num_ne (fun z => by rw [z] at h; exact absurd h (by decide))
  omega
theorem prop_true {x : Rat} (h : 0 < x) : F_is_proportion [fr x] = some (.bool true) := by
  have hd : decide ((0 : Int) < x.num) = true := decide_eq_true (num_pos h)
  have e : dIx (fr x) (.int 0) = some (.int x.num) := rfl
  have h1 := frac_true x
  unfold F_is_proportion runF B_is_proportion
  simp only [sSeq, sIf, sNil, sAsg, sRet, sDrop, cV, cAnd, cOr, cNot, cTrue, eOp2, eOp1, eVar, eC, eApp, aCons, aNil, eIf, eAnd, eOr, eNot, eChain, eNeg, asB, dLt, dLe, dGt, dGe, dSub, dIx, dAbs, dMin, dMax, dLen, dList, dTuple, mkTup, mkLst, gSet, QL.gTup, gTupF, unTup, sPar2, xDat, xOwn, xNil, noScr, sOwn, oLst, iSeq, asSeq, iApp, endOf, List.map_cons, List.map_nil, List.length_cons, List.length_nil, List.length_set, List.replicate, List.cons_append, List.nil_append, List.getElem?_cons_zero, List.getElem?_cons_succ, List.getElem?_nil, Option.bind_some, Option.bind_none, Option.map_some, Option.map_none, List.set_cons_zero, List.set_cons_succ, List.set_nil, Bool.false_eq_true, if_false, if_true, ne_eq, not_false_eq_true, not_true_eq_false, and_self, and_true, true_and, Bool.not_true, Bool.not_false, Bool.and_true, Bool.true_and, Nat.reduceAdd, Nat.reduceSub, Nat.reduceLeDiff, Nat.reduceLT, Nat.reduceEqDiff, Nat.lt_irrefl, decide_true, decide_false, isa1, isa2, isa3, isa4, isa5, isa6, isa7, isa8, atI_0, atI_1, atI_2, atI_3, Option.getD_some, ownL, scrAt, h1]
  unfold fr
  simp only [sSeq, sIf, sNil, sAsg, sRet, sDrop, cV, cAnd, cOr, cNot, cTrue, eOp2, eOp1, eVar, eC, eApp, aCons, aNil, eIf, eAnd, eOr, eNot, eChain, eNeg, asB, dLt, dLe, dGt, dGe, dSub, dIx, dAbs, dMin, dMax, dLen, dList, dTuple, mkTup, mkLst, gSet, QL.gTup, gTupF, unTup, sPar2, xDat, xOwn, xNil, noScr, sOwn, oLst, iSeq, asSeq, iApp, endOf, List.map_cons, List.map_nil, List.length_cons, List.length_nil, List.length_set, List.replicate, List.cons_append, List.nil_append, List.getElem?_cons_zero, List.getElem?_cons_succ, List.getElem?_nil, Option.bind_some, Option.bind_none, Option.map_some, Option.map_none, List.set_cons_zero, List.set_cons_succ, List.set_nil, Bool.false_eq_true, if_false, if_true, ne_eq, not_false_eq_true, not_true_eq_false, and_self, and_true, true_and, Bool.not_true, Bool.not_false, Bool.and_true, Bool.true_and, Nat.reduceAdd, Nat.reduceSub, Nat.reduceLeDiff, Nat.reduceLT, Nat.reduceEqDiff, Nat.lt_irrefl, decide_true, decide_false, isa1, isa2, isa3, isa4, isa5, isa6, isa7, isa8, atI_0, atI_1, atI_2, atI_3, Option.getD_some, ownL, scrAt, hd]
theorem prop_node (w : Str) (ps : List D) : F_is_proportion [.tuple [.str w, .tuple ps]] = some (.bool false) := by
  have h1 := frac_node w ps
  unfold F_is_proportion runF B_is_proportion
  simp only [sSeq, sIf, sNil, sAsg, sRet, sDrop, cV, cAnd, cOr, cNot, cTrue, eOp2, eOp1, eVar, eC, eApp, aCons, aNil, eIf, eAnd, eOr, eNot, eChain, eNeg, asB, dLt, dLe, dGt, dGe, dSub, dIx, dAbs, dMin, dMax, dLen, dList, dTuple, mkTup, mkLst, gSet, QL.gTup, gTupF, unTup, sPar2, xDat, xOwn, xNil, noScr, sOwn, oLst, iSeq, asSeq, iApp, endOf, List.map_cons, List.map_nil, List.length_cons, List.length_nil, List.length_set, List.replicate, List.cons_append, List.nil_append, List.getElem?_cons_zero, List.getElem?_cons_succ, List.getElem?_nil, Option.bind_some, Option.bind_none, Option.map_some, Option.map_none, List.set_cons_zero, List.set_cons_succ, List.set_nil, Bool.false_eq_true, if_false, if_true, ne_eq, not_false_eq_true, not_true_eq_false, and_self, and_true, true_and, Bool.not_true, Bool.not_false, Bool.and_true, Bool.true_and, Nat.reduceAdd, Nat.reduceSub, Nat.reduceLeDiff, Nat.reduceLT, Nat.reduceEqDiff, Nat.lt_irrefl, decide_true, decide_false, isa1, isa2, isa3, isa4, isa5, isa6, isa7, isa8, atI_0, atI_1, atI_2, atI_3, Option.getD_some, ownL, scrAt, h1]

/-! ### what is a nest -/
theorem notIn_word (b : Bool) : dNotIn (.str (word b)) (.tuple [.str "side", .str "stack"]) = some (.bool false) := by
  show some (PyData.bool (!inV (V.str (word b)) [V.str "side", V.str "stack"])) = _
  have : inV (V.str (word b)) [V.str "side", V.str "stack"] = true := by cases b <;> decide +kernel
  rw [this]
  rfl
theorem props_loop {G : List D → Option D} (nd : D) (l : Nat) : ∀ (ps : List Nest) (acc : List D) (s3 s4 : Sl), (∀ p ∈ ps, G [toD p, .int l] = some (.list ((leaves p).map fr))) → acc.length + (leavesS ps).length ≤ 1000000 →
    ∃ s3' s4', QL.forM (gSet 3) (sSeq (sAsg (eApp G (aCons (eVar 3) (aCons (eOp2 dSub (eVar 1) (eC (.int 1))) aNil))) (gSet 4)) (sSeq (sIf (cV (eOp2 dIs (eVar 4) (eC .none))) (sRet (eC .none)) sNil) (sDrop (eExtend 2 (eVar 4))))) (toDs ps) [.dat nd, .dat (.int ((l + 1 : Nat) : Int)), .own (.lst acc), s3, s4] = some (.nx, [.dat nd, .dat (.int ((l + 1 : Nat) : Int)), .own (.lst (acc ++ (leavesS ps).map fr)), s3', s4'])
  | [], acc, s3, s4, _, _ => ⟨s3, s4, by simp [toDs, QL.forM, leavesS]⟩
  | p :: ps, acc, s3, s4, h, hl => by
    rw [leavesS, List.length_append] at hl
    obtain ⟨s3', s4', h2⟩ := props_loop nd l ps (acc ++ (leaves p).map fr) (.dat (toD p)) (.dat (.list ((leaves p).map fr))) (fun q hq => h q (List.mem_cons_of_mem _ hq)) (by simp; omega)
    refine ⟨s3', s4', ?_⟩
    have h1 := h p List.mem_cons_self
    have hle : acc.length + ((leaves p).map fr).length ≤ 1000000 := by simp; omega
    have es : ((l + 1 : Nat) : Int) - 1 = (l : Int) := by omega
    have hn : dIs (.list ((leaves p).map fr)) .none = some (.bool false) := rfl
    rw [toDs]
    unfold QL.forM
    simp only [sSeq, sIf, sNil, sAsg, sRet, sDrop, cV, cAnd, cOr, cNot, cTrue, eOp2, eOp1, eVar, eC, eApp, aCons, aNil, eIf, eAnd, eOr, eNot, eChain, eNeg, asB, dLt, dLe, dGt, dGe, dSub, dIx, dAbs, dMin, dMax, dLen, dList, dTuple, mkTup, mkLst, gSet, QL.gTup, gTupF, unTup, sPar2, xDat, xOwn, xNil, noScr, sOwn, oLst, iSeq, asSeq, iApp, endOf, List.map_cons, List.map_nil, List.length_cons, List.length_nil, List.length_set, List.replicate, List.cons_append, List.nil_append, List.getElem?_cons_zero, List.getElem?_cons_succ, List.getElem?_nil, Option.bind_some, Option.bind_none, Option.map_some, Option.map_none, List.set_cons_zero, List.set_cons_succ, List.set_nil, Bool.false_eq_true, if_false, if_true, ne_eq, not_false_eq_true, not_true_eq_false, and_self, and_true, true_and, Bool.not_true, Bool.not_false, Bool.and_true, Bool.true_and, Nat.reduceAdd, Nat.reduceSub, Nat.reduceLeDiff, Nat.reduceLT, Nat.reduceEqDiff, Nat.lt_irrefl, decide_true, decide_false, isa1, isa2, isa3, isa4, isa5, isa6, isa7, isa8, atI_0, atI_1, atI_2, atI_3, Option.getD_some, ownL, scrAt, es, h1, hn, eExtend, hle, h2, leavesS, List.map_append, List.append_assoc]
theorem F_props_eq : ∀ (d f : Nat) (n : Nest), d < f → Wf d n → d ≤ 10 → F_proportions_in f [toD n, .int d] = some (.list ((leaves n).map fr))
  | _, 0, _, h, _, _ => absurd h (Nat.not_lt_zero _)
  | d, f + 1, .leaf x, _, w, _ => by
    unfold Wf at w
    have hp := prop_true w.1
    show runF 2 5 (B_proportions_in (F_proportions_in f)) _ = _
    unfold runF B_proportions_in
    simp only [sSeq, sIf, sNil, sAsg, sRet, sDrop, cV, cAnd, cOr, cNot, cTrue, eOp2, eOp1, eVar, eC, eApp, aCons, aNil, eIf, eAnd, eOr, eNot, eChain, eNeg, asB, dLt, dLe, dGt, dGe, dSub, dIx, dAbs, dMin, dMax, dLen, dList, dTuple, mkTup, mkLst, gSet, QL.gTup, gTupF, unTup, sPar2, xDat, xOwn, xNil, noScr, sOwn, oLst, iSeq, asSeq, iApp, endOf, List.map_cons, List.map_nil, List.length_cons, List.length_nil, List.length_set, List.replicate, List.cons_append, List.nil_append, List.getElem?_cons_zero, List.getElem?_cons_succ, List.getElem?_nil, Option.bind_some, Option.bind_none, Option.map_some, Option.map_none, List.set_cons_zero, List.set_cons_succ, List.set_nil, Bool.false_eq_true, if_false, if_true, ne_eq, not_false_eq_true, not_true_eq_false, and_self, and_true, true_and, Bool.not_true, Bool.not_false, Bool.and_true, Bool.true_and, Nat.reduceAdd, Nat.reduceSub, Nat.reduceLeDiff, Nat.reduceLT, Nat.reduceEqDiff, Nat.lt_irrefl, decide_true, decide_false, isa1, isa2, isa3, isa4, isa5, isa6, isa7, isa8, atI_0, atI_1, atI_2, atI_3, Option.getD_some, ownL, scrAt, toD, hp, leaves]
  | 0, f + 1, .node _ _, _, w, _ => by unfold Wf at w; exact w.elim
  | d + 1, f + 1, .node b ps, hf, w, hd => by
    have w0 := w
    unfold Wf at w
    obtain ⟨w1, w2, w3⟩ := w
    have hb : (leavesS ps).length ≤ 1000000 := by
      have := leaves_len (d + 1) _ w0
      rw [leaves] at this
      exact Nat.le_trans this (Nat.le_trans (Nat.pow_le_pow_right (by decide) (show d + 1 ≤ 10 by omega)) (by decide))
    obtain ⟨s3', s4', h2⟩ := props_loop (toD (.node b ps)) d ps [] .un .un (fun p hp => F_props_eq d f p (by omega) (Wfs_mem w3 p hp) (by omega)) (by simpa using hb)
    simp only [toD, List.nil_append] at h2
    have hp := prop_node (word b) (toDs ps)
    have hl : (toDs ps).length = ps.length := by rw [toDs_map, List.length_map]
    have e0 : dEq (.int ((d + 1 : Nat) : Int)) (.int 0) = some (.bool false) := by
      rw [dEq_int, beq_eq_false_iff_ne.mpr (by omega)]
    have c1 : decide ((2 : Int) ≤ (ps.length : Int)) = true := decide_eq_true (by omega)
    have c2 : decide ((ps.length : Int) ≤ 4) = true := decide_eq_true (by omega)
    show runF 2 5 (B_proportions_in (F_proportions_in f)) _ = _
    unfold runF B_proportions_in
    simp only [sSeq, sIf, sNil, sAsg, sRet, sDrop, cV, cAnd, cOr, cNot, cTrue, eOp2, eOp1, eVar, eC, eApp, aCons, aNil, eIf, eAnd, eOr, eNot, eChain, eNeg, asB, dLt, dLe, dGt, dGe, dSub, dIx, dAbs, dMin, dMax, dLen, dList, dTuple, mkTup, mkLst, gSet, QL.gTup, gTupF, unTup, sPar2, xDat, xOwn, xNil, noScr, sOwn, oLst, iSeq, asSeq, iApp, endOf, List.map_cons, List.map_nil, List.length_cons, List.length_nil, List.length_set, List.replicate, List.cons_append, List.nil_append, List.getElem?_cons_zero, List.getElem?_cons_succ, List.getElem?_nil, Option.bind_some, Option.bind_none, Option.map_some, Option.map_none, List.set_cons_zero, List.set_cons_succ, List.set_nil, Bool.false_eq_true, if_false, if_true, ne_eq, not_false_eq_true, not_true_eq_false, and_self, and_true, true_and, Bool.not_true, Bool.not_false, Bool.and_true, Bool.true_and, Nat.reduceAdd, Nat.reduceSub, Nat.reduceLeDiff, Nat.reduceLT, Nat.reduceEqDiff, Nat.lt_irrefl, decide_true, decide_false, isa1, isa2, isa3, isa4, isa5, isa6, isa7, isa8, atI_0, atI_1, atI_2, atI_3, Option.getD_some, ownL, scrAt, toD, hp, ne22, e0, notIn_word, hl, c1, c2, sFor, Nat.zero_le, h2, leaves]
theorem F_good_eq (n : Nest) (w : Wf 3 n) (h8 : (leaves n).length ≤ 8) : F_good_nest [toD n] = some (.bool true) := by
  have hp : F_proportions_in 4 [toD n, .int 3] = some (.list ((leaves n).map fr)) := F_props_eq 3 4 n (by decide) w (by decide)
  have c : decide ((((leaves n).map fr).length : Int) ≤ 8) = true := decide_eq_true (by rw [List.length_map]; omega)
  have hn : dIsNot (.list ((leaves n).map fr)) .none = some (.bool true) := rfl
  unfold F_good_nest runF B_good_nest
  simp only [sSeq, sIf, sNil, sAsg, sRet, sDrop, cV, cAnd, cOr, cNot, cTrue, eOp2, eOp1, eVar, eC, eApp, aCons, aNil, eIf, eAnd, eOr, eNot, eChain, eNeg, asB, dLt, dLe, dGt, dGe, dSub, dIx, dAbs, dMin, dMax, dLen, dList, dTuple, mkTup, mkLst, gSet, QL.gTup, gTupF, unTup, sPar2, xDat, xOwn, xNil, noScr, sOwn, oLst, iSeq, asSeq, iApp, endOf, List.map_cons, List.map_nil, List.length_cons, List.length_nil, List.length_set, List.replicate, List.cons_append, List.nil_append, List.getElem?_cons_zero, List.getElem?_cons_succ, List.getElem?_nil, Option.bind_some, Option.bind_none, Option.map_some, Option.map_none, List.set_cons_zero, List.set_cons_succ, List.set_nil, Bool.false_eq_true, if_false, if_true, ne_eq, not_false_eq_true, not_true_eq_false, and_self, and_true, true_and, Bool.not_true, Bool.not_false, Bool.and_true, Bool.true_and, Nat.reduceAdd, Nat.reduceSub, Nat.reduceLeDiff, Nat.reduceLT, Nat.reduceEqDiff, Nat.lt_irrefl, decide_true, decide_false, isa1, isa2, isa3, isa4, isa5, isa6, isa7, isa8, atI_0, atI_1, atI_2, atI_3, Option.getD_some, ownL, scrAt, hp, hn, c]
theorem F_need_eq (n : Nest) (w : Wf 3 n) (h8 : (leaves n).length ≤ 8) : F_need_nest [toD n] = some .none := by
  have h := F_good_eq n w h8
  unfold F_need_nest runF B_need_nest
  simp only [sSeq, sIf, sNil, sAsg, sRet, sDrop, cV, cAnd, cOr, cNot, cTrue, eOp2, eOp1, eVar, eC, eApp, aCons, aNil, eIf, eAnd, eOr, eNot, eChain, eNeg, asB, dLt, dLe, dGt, dGe, dSub, dIx, dAbs, dMin, dMax, dLen, dList, dTuple, mkTup, mkLst, gSet, QL.gTup, gTupF, unTup, sPar2, xDat, xOwn, xNil, noScr, sOwn, oLst, iSeq, asSeq, iApp, endOf, List.map_cons, List.map_nil, List.length_cons, List.length_nil, List.length_set, List.replicate, List.cons_append, List.nil_append, List.getElem?_cons_zero, List.getElem?_cons_succ, List.getElem?_nil, Option.bind_some, Option.bind_none, Option.map_some, Option.map_none, List.set_cons_zero, List.set_cons_succ, List.set_nil, Bool.false_eq_true, if_false, if_true, ne_eq, not_false_eq_true, not_true_eq_false, and_self, and_true, true_and, Bool.not_true, Bool.not_false, Bool.and_true, Bool.true_and, Nat.reduceAdd, Nat.reduceSub, Nat.reduceLeDiff, Nat.reduceLT, Nat.reduceEqDiff, Nat.lt_irrefl, decide_true, decide_false, isa1, isa2, isa3, isa4, isa5, isa6, isa7, isa8, atI_0, atI_1, atI_2, atI_3, Option.getD_some, ownL, scrAt, h]
theorem F_isnest_eq (n : Nest) (w : Wf 3 n) (h8 : (leaves n).length ≤ 8) : F_is_nest [toD n] = some (.bool true) := by
  have h := F_good_eq n w h8
  unfold F_is_nest runF B_is_nest
  simp only [sSeq, sIf, sNil, sAsg, sRet, sDrop, cV, cAnd, cOr, cNot, cTrue, eOp2, eOp1, eVar, eC, eApp, aCons, aNil, eIf, eAnd, eOr, eNot, eChain, eNeg, asB, dLt, dLe, dGt, dGe, dSub, dIx, dAbs, dMin, dMax, dLen, dList, dTuple, mkTup, mkLst, gSet, QL.gTup, gTupF, unTup, sPar2, xDat, xOwn, xNil, noScr, sOwn, oLst, iSeq, asSeq, iApp, endOf, List.map_cons, List.map_nil, List.length_cons, List.length_nil, List.length_set, List.replicate, List.cons_append, List.nil_append, List.getElem?_cons_zero, List.getElem?_cons_succ, List.getElem?_nil, Option.bind_some, Option.bind_none, Option.map_some, Option.map_none, List.set_cons_zero, List.set_cons_succ, List.set_nil, Bool.false_eq_true, if_false, if_true, ne_eq, not_false_eq_true, not_true_eq_false, and_self, and_true, true_and, Bool.not_true, Bool.not_false, Bool.and_true, Bool.true_and, Nat.reduceAdd, Nat.reduceSub, Nat.reduceLeDiff, Nat.reduceLT, Nat.reduceEqDiff, Nat.lt_irrefl, decide_true, decide_false, isa1, isa2, isa3, isa4, isa5, isa6, isa7, isa8, atI_0, atI_1, atI_2, atI_3, Option.getD_some, ownL, scrAt, h]
theorem leaf_true (x : Rat) : F_is_leaf [fr x] = some (.bool true) := by
  unfold F_is_leaf runF B_is_leaf fr
  simp only [sSeq, sIf, sNil, sAsg, sRet, sDrop, cV, cAnd, cOr, cNot, cTrue, eOp2, eOp1, eVar, eC, eApp, aCons, aNil, eIf, eAnd, eOr, eNot, eChain, eNeg, asB, dLt, dLe, dGt, dGe, dSub, dIx, dAbs, dMin, dMax, dLen, dList, dTuple, mkTup, mkLst, gSet, QL.gTup, gTupF, unTup, sPar2, xDat, xOwn, xNil, noScr, sOwn, oLst, iSeq, asSeq, iApp, endOf, List.map_cons, List.map_nil, List.length_cons, List.length_nil, List.length_set, List.replicate, List.cons_append, List.nil_append, List.getElem?_cons_zero, List.getElem?_cons_succ, List.getElem?_nil, Option.bind_some, Option.bind_none, Option.map_some, Option.map_none, List.set_cons_zero, List.set_cons_succ, List.set_nil, Bool.false_eq_true, if_false, if_true, ne_eq, not_false_eq_true, not_true_eq_false, and_self, and_true, true_and, Bool.not_true, Bool.not_false, Bool.and_true, Bool.true_and, Nat.reduceAdd, Nat.reduceSub, Nat.reduceLeDiff, Nat.reduceLT, Nat.reduceEqDiff, Nat.lt_irrefl, decide_true, decide_false, isa1, isa2, isa3, isa4, isa5, isa6, isa7, isa8, atI_0, atI_1, atI_2, atI_3, Option.getD_some, ownL, scrAt]
theorem leaf_node (w : Str) (ps : List D) : F_is_leaf [.tuple [.str w, .tuple ps]] = some (.bool false) := by
  unfold F_is_leaf runF B_is_leaf
  simp only [sSeq, sIf, sNil, sAsg, sRet, sDrop, cV, cAnd, cOr, cNot, cTrue, eOp2, eOp1, eVar, eC, eApp, aCons, aNil, eIf, eAnd, eOr, eNot, eChain, eNeg, asB, dLt, dLe, dGt, dGe, dSub, dIx, dAbs, dMin, dMax, dLen, dList, dTuple, mkTup, mkLst, gSet, QL.gTup, gTupF, unTup, sPar2, xDat, xOwn, xNil, noScr, sOwn, oLst, iSeq, asSeq, iApp, endOf, List.map_cons, List.map_nil, List.length_cons, List.length_nil, List.length_set, List.replicate, List.cons_append, List.nil_append, List.getElem?_cons_zero, List.getElem?_cons_succ, List.getElem?_nil, Option.bind_some, Option.bind_none, Option.map_some, Option.map_none, List.set_cons_zero, List.set_cons_succ, List.set_nil, Bool.false_eq_true, if_false, if_true, ne_eq, not_false_eq_true, not_true_eq_false, and_self, and_true, true_and, Bool.not_true, Bool.not_false, Bool.and_true, Bool.true_and, Nat.reduceAdd, Nat.reduceSub, Nat.reduceLeDiff, Nat.reduceLT, Nat.reduceEqDiff, Nat.lt_irrefl, decide_true, decide_false, isa1, isa2, isa3, isa4, isa5, isa6, isa7, isa8, atI_0, atI_1, atI_2, atI_3, Option.getD_some, ownL, scrAt]

/-! ### a nest's proportion -/
mutual
def worth : Nest → Rat
  | .leaf x => x
  | .node true ps => worthS ps
  | .node false ps => 1 / invS ps
def worthS : List Nest → Rat
  | [] => 0
  | p :: ps => worth p + worthS ps
def invS : List Nest → Rat
  | [] => 0
  | p :: ps => 1 / worth p + invS ps
end
def Bd : Nat → Nat
  | 0 => 5
  | d + 1 => 3 * Bd d + 8
theorem Bd_ge : ∀ d, 5 ≤ Bd d
  | 0 => by decide
  | d + 1 => by have := Bd_ge d; unfold Bd; omega
theorem div_pos {a b : Rat} (ha : 0 < a) (hb : 0 < b) : 0 < a / b := by
  rw [Rat.div_def]
  exact Rat.mul_pos ha (Rat.inv_pos.mpr hb)
theorem worthS_pos {ps : List Nest} (h : ∀ p ∈ ps, 0 < worth p) : 0 ≤ worthS ps := by
  induction ps with
  | nil => exact Rat.le_refl
  | cons p ps ih =>
    have h1 := h p List.mem_cons_self
    have h2 := ih fun q hq => h q (List.mem_cons_of_mem _ hq)
    rw [worthS]
    grind
theorem invS_pos {ps : List Nest} (h : ∀ p ∈ ps, 0 < worth p) : 0 ≤ invS ps := by
  induction ps with
  | nil => exact Rat.le_refl
  | cons p ps ih =>
    have h1 := div_pos (a := 1) (by decide) (h p List.mem_cons_self)
    have h2 := ih fun q hq => h q (List.mem_cons_of_mem _ hq)
    rw [invS]
    grind
theorem worthS_pos' {ps : List Nest} (h : ∀ p ∈ ps, 0 < worth p) (hn : ps ≠ []) : 0 < worthS ps := by
  cases ps with
  | nil => exact absurd rfl hn
  | cons p ps =>
    have h1 := h p List.mem_cons_self
    have h2 := worthS_pos fun q hq => h q (List.mem_cons_of_mem _ hq)
    rw [worthS]
    grind
theorem invS_pos' {ps : List Nest} (h : ∀ p ∈ ps, 0 < worth p) (hn : ps ≠ []) : 0 < invS ps := by
  cases ps with
  | nil => exact absurd rfl hn
  | cons p ps =>
    have h1 := div_pos (a := 1) (by decide) (h p List.mem_cons_self)
    have h2 := invS_pos fun q hq => h q (List.mem_cons_of_mem _ hq)
    rw [invS]
    grind
theorem worth_pos : ∀ (d : Nat) (n : Nest), Wf d n → 0 < worth n
  | d, .leaf x, w => by unfold Wf at w; rw [worth]; exact w.1
  | 0, .node _ _, w => by unfold Wf at w; exact w.elim
  | d + 1, .node b ps, w => by
    unfold Wf at w
    have h : ∀ p ∈ ps, 0 < worth p := fun p hp => worth_pos d p (Wfs_mem w.2.2 p hp)
    have hn : ps ≠ [] := fun z => by rw [z] at w; simp at w
    cases b
    · rw [worth]; exact div_pos (by decide) (invS_pos' h hn)
    · rw [worth]; exact worthS_pos' h hn
theorem total_loop {B : Nat} (nd : Sl) : ∀ (xs : List Rat) (acc : Rat) (a : Nat) (s2 : Sl), Sz a acc → (∀ x ∈ xs, Sz B x) → a + xs.length * (B + 1) ≤ 8000 →
    ∃ s2', QL.forM (gSet 2) (sAsg (eApp F_plus (aCons (eVar 1) (aCons (eVar 2) aNil))) (gSet 1)) (xs.map fr) [nd, .dat (fr acc), s2] = some (.nx, [nd, .dat (fr (acc + xs.sum)), s2']) ∧ Sz (a + xs.length * (B + 1)) (acc + xs.sum)
  | [], acc, a, s2, h, _, _ => ⟨s2, by simp [QL.forM, Rat.add_zero], by simpa [Rat.add_zero] using h⟩
  | x :: xs, acc, a, s2, h, hx, hl => by
    have e0 : (x :: xs).length * (B + 1) = xs.length * (B + 1) + (B + 1) := by rw [List.length_cons, Nat.succ_mul]
    have h1 := hx x List.mem_cons_self
    have hp := F_plus_eq h h1 (by omega)
    have hs : Sz (a + (B + 1)) (acc + x) := (h.add h1).mono (by omega)
    obtain ⟨s2', h2, z2⟩ := total_loop nd xs (acc + x) (a + (B + 1)) (.dat (fr x)) hs (fun y hy => hx y (List.mem_cons_of_mem _ hy)) (by omega)
    have e1 : acc + x + xs.sum = acc + (x :: xs).sum := by rw [List.sum_cons]; grind
    rw [e1] at h2 z2
    refine ⟨s2', ?_, z2.mono (by omega)⟩
    rw [List.map_cons]
    unfold QL.forM
    simp only [sSeq, sIf, sNil, sAsg, sRet, sDrop, cV, cAnd, cOr, cNot, cTrue, eOp2, eOp1, eVar, eC, eApp, aCons, aNil, eIf, eAnd, eOr, eNot, eChain, eNeg, asB, dLt, dLe, dGt, dGe, dSub, dIx, dAbs, dMin, dMax, dLen, dList, dTuple, mkTup, mkLst, gSet, QL.gTup, gTupF, unTup, sPar2, xDat, xOwn, xNil, noScr, sOwn, oLst, iSeq, asSeq, iApp, endOf, List.map_cons, List.map_nil, List.length_cons, List.length_nil, List.length_set, List.replicate, List.cons_append, List.nil_append, List.getElem?_cons_zero, List.getElem?_cons_succ, List.getElem?_nil, Option.bind_some, Option.bind_none, Option.map_some, Option.map_none, List.set_cons_zero, List.set_cons_succ, List.set_nil, Bool.false_eq_true, if_false, if_true, ne_eq, not_false_eq_true, not_true_eq_false, and_self, and_true, true_and, Bool.not_true, Bool.not_false, Bool.and_true, Bool.true_and, Nat.reduceAdd, Nat.reduceSub, Nat.reduceLeDiff, Nat.reduceLT, Nat.reduceEqDiff, Nat.lt_irrefl, decide_true, decide_false, isa1, isa2, isa3, isa4, isa5, isa6, isa7, isa8, atI_0, atI_1, atI_2, atI_3, Option.getD_some, ownL, scrAt, hp, h2]
theorem fr_zero : fr 0 = .tuple [.int 0, .int 1] := rfl
theorem fr_one : fr 1 = .tuple [.int 1, .int 1] := rfl
theorem Sz_zero : Sz 1 0 := ⟨by decide, by decide⟩
theorem Sz_one : Sz 1 1 := ⟨by decide, by decide⟩
theorem F_total_eq {B : Nat} (xs : List Rat) (h : ∀ x ∈ xs, Sz B x) (hl : 1 + xs.length * (B + 1) ≤ 8000) : F_total [.list (xs.map fr)] = some (fr xs.sum) ∧ Sz (1 + xs.length * (B + 1)) xs.sum := by
  obtain ⟨s2', h2, z2⟩ := total_loop (.dat (.list (xs.map fr))) xs 0 1 .un Sz_zero h hl
  have e : (0 : Rat) + xs.sum = xs.sum := by grind
  rw [e] at h2 z2
  refine ⟨?_, z2⟩
  rw [fr_zero] at h2
  unfold F_total runF B_total
  simp only [sSeq, sIf, sNil, sAsg, sRet, sDrop, cV, cAnd, cOr, cNot, cTrue, eOp2, eOp1, eVar, eC, eApp, aCons, aNil, eIf, eAnd, eOr, eNot, eChain, eNeg, asB, dLt, dLe, dGt, dGe, dSub, dIx, dAbs, dMin, dMax, dLen, dList, dTuple, mkTup, mkLst, gSet, QL.gTup, gTupF, unTup, sPar2, xDat, xOwn, xNil, noScr, sOwn, oLst, iSeq, asSeq, iApp, endOf, List.map_cons, List.map_nil, List.length_cons, List.length_nil, List.length_set, List.replicate, List.cons_append, List.nil_append, List.getElem?_cons_zero, List.getElem?_cons_succ, List.getElem?_nil, Option.bind_some, Option.bind_none, Option.map_some, Option.map_none, List.set_cons_zero, List.set_cons_succ, List.set_nil, Bool.false_eq_true, if_false, if_true, ne_eq, not_false_eq_true, not_true_eq_false, and_self, and_true, true_and, Bool.not_true, Bool.not_false, Bool.and_true, Bool.true_and, Nat.reduceAdd, Nat.reduceSub, Nat.reduceLeDiff, Nat.reduceLT, Nat.reduceEqDiff, Nat.lt_irrefl, decide_true, decide_false, isa1, isa2, isa3, isa4, isa5, isa6, isa7, isa8, atI_0, atI_1, atI_2, atI_3, Option.getD_some, ownL, scrAt, sFor, h2]
theorem worthS_sum : ∀ ps : List Nest, (ps.map worth).sum = worthS ps
  | [] => rfl
  | p :: ps => by rw [List.map_cons, List.sum_cons, worthS_sum ps, worthS]
theorem invS_sum : ∀ ps : List Nest, (ps.map fun p => 1 / worth p).sum = invS ps
  | [] => rfl
  | p :: ps => by rw [List.map_cons, List.sum_cons, invS_sum ps, invS]
theorem pos_ne {x : Rat} (h : 0 < x) : x ≠ 0 := fun z => by rw [z] at h; exact absurd h (by decide)
theorem F_worth_eq : ∀ (d f : Nat) (n : Nest), d < f → Wf d n → d ≤ 3 → F_proportion_of f [toD n] = some (fr (worth n)) ∧ Sz (Bd d) (worth n)
  | _, 0, _, h, _, _ => absurd h (Nat.not_lt_zero _)
  | d, f + 1, .leaf x, _, w, _ => by
    unfold Wf at w
    refine ⟨?_, by rw [worth]; exact w.2.mono (Bd_ge d)⟩
    have h := leaf_true x
    show runF 1 3 (B_proportion_of (F_proportion_of f)) _ = _
    unfold runF B_proportion_of
    simp only [sSeq, sIf, sNil, sAsg, sRet, sDrop, cV, cAnd, cOr, cNot, cTrue, eOp2, eOp1, eVar, eC, eApp, aCons, aNil, eIf, eAnd, eOr, eNot, eChain, eNeg, asB, dLt, dLe, dGt, dGe, dSub, dIx, dAbs, dMin, dMax, dLen, dList, dTuple, mkTup, mkLst, gSet, QL.gTup, gTupF, unTup, sPar2, xDat, xOwn, xNil, noScr, sOwn, oLst, iSeq, asSeq, iApp, endOf, List.map_cons, List.map_nil, List.length_cons, List.length_nil, List.length_set, List.replicate, List.cons_append, List.nil_append, List.getElem?_cons_zero, List.getElem?_cons_succ, List.getElem?_nil, Option.bind_some, Option.bind_none, Option.map_some, Option.map_none, List.set_cons_zero, List.set_cons_succ, List.set_nil, Bool.false_eq_true, if_false, if_true, ne_eq, not_false_eq_true, not_true_eq_false, and_self, and_true, true_and, Bool.not_true, Bool.not_false, Bool.and_true, Bool.true_and, Nat.reduceAdd, Nat.reduceSub, Nat.reduceLeDiff, Nat.reduceLT, Nat.reduceEqDiff, Nat.lt_irrefl, decide_true, decide_false, isa1, isa2, isa3, isa4, isa5, isa6, isa7, isa8, atI_0, atI_1, atI_2, atI_3, Option.getD_some, ownL, scrAt, toD, h, worth]
  | 0, f + 1, .node _ _, _, w, _ => by unfold Wf at w; exact w.elim
  | d + 1, f + 1, .node b ps, hf, w, hd => by
    have wp := worth_pos (d + 1) _ w
    unfold Wf at w
    obtain ⟨w1, w2, w3⟩ := w
    have hB : Bd d ≤ 77 := by
      have : d = 0 ∨ d = 1 ∨ d = 2 := by omega
      rcases this with rfl | rfl | rfl <;> decide
    have ih := fun p hp => F_worth_eq d f p (by omega) (Wfs_mem w3 p hp) (by omega)
    have key := eLc_pure (i := 2) (ρ := [.dat (toD (.node b ps)), .un, .un]) (it := iSeq (eOp2 dIx (eVar 0) (eC (.int 1)))) (m := eApp (F_proportion_of f) (aCons (eVar 2) aNil)) (g := toD) (h := fun p => fr (worth p)) ps
      (by simp only [sSeq, sIf, sNil, sAsg, sRet, sDrop, cV, cAnd, cOr, cNot, cTrue, eOp2, eOp1, eVar, eC, eApp, aCons, aNil, eIf, eAnd, eOr, eNot, eChain, eNeg, asB, dLt, dLe, dGt, dGe, dSub, dIx, dAbs, dMin, dMax, dLen, dList, dTuple, mkTup, mkLst, gSet, QL.gTup, gTupF, unTup, sPar2, xDat, xOwn, xNil, noScr, sOwn, oLst, iSeq, asSeq, iApp, endOf, List.map_cons, List.map_nil, List.length_cons, List.length_nil, List.length_set, List.replicate, List.cons_append, List.nil_append, List.getElem?_cons_zero, List.getElem?_cons_succ, List.getElem?_nil, Option.bind_some, Option.bind_none, Option.map_some, Option.map_none, List.set_cons_zero, List.set_cons_succ, List.set_nil, Bool.false_eq_true, if_false, if_true, ne_eq, not_false_eq_true, not_true_eq_false, and_self, and_true, true_and, Bool.not_true, Bool.not_false, Bool.and_true, Bool.true_and, Nat.reduceAdd, Nat.reduceSub, Nat.reduceLeDiff, Nat.reduceLT, Nat.reduceEqDiff, Nat.lt_irrefl, decide_true, decide_false, isa1, isa2, isa3, isa4, isa5, isa6, isa7, isa8, atI_0, atI_1, atI_2, atI_3, Option.getD_some, ownL, scrAt, toD, toDs_map]) (.inl rfl) (by omega) (fun p hp => by
        have := (ih p hp).1
        simp only [sSeq, sIf, sNil, sAsg, sRet, sDrop, cV, cAnd, cOr, cNot, cTrue, eOp2, eOp1, eVar, eC, eApp, aCons, aNil, eIf, eAnd, eOr, eNot, eChain, eNeg, asB, dLt, dLe, dGt, dGe, dSub, dIx, dAbs, dMin, dMax, dLen, dList, dTuple, mkTup, mkLst, gSet, QL.gTup, gTupF, unTup, sPar2, xDat, xOwn, xNil, noScr, sOwn, oLst, iSeq, asSeq, iApp, endOf, List.map_cons, List.map_nil, List.length_cons, List.length_nil, List.length_set, List.replicate, List.cons_append, List.nil_append, List.getElem?_cons_zero, List.getElem?_cons_succ, List.getElem?_nil, Option.bind_some, Option.bind_none, Option.map_some, Option.map_none, List.set_cons_zero, List.set_cons_succ, List.set_nil, Bool.false_eq_true, if_false, if_true, ne_eq, not_false_eq_true, not_true_eq_false, and_self, and_true, true_and, Bool.not_true, Bool.not_false, Bool.and_true, Bool.true_and, Nat.reduceAdd, Nat.reduceSub, Nat.reduceLeDiff, Nat.reduceLT, Nat.reduceEqDiff, Nat.lt_irrefl, decide_true, decide_false, isa1, isa2, isa3, isa4, isa5, isa6, isa7, isa8, atI_0, atI_1, atI_2, atI_3, Option.getD_some, ownL, scrAt, this])
    have e1 : ps.map (fun p => fr (worth p)) = (ps.map worth).map fr := by simp
    rw [e1] at key
    have hmul : ps.length * (Bd d + 1) ≤ 3 * (Bd d + 1) := Nat.mul_le_mul_right _ w2
    have hl := leaf_node (word b) (toDs ps)
    have hpos : ∀ p ∈ ps, 0 < worth p := fun p hp => worth_pos d p (Wfs_mem w3 p hp)
    have hn : ps ≠ [] := fun z => by rw [z] at w1; simp at w1
    simp only [toD] at key
    cases b with
    | true =>
      obtain ⟨t1, t2⟩ := F_total_eq (B := Bd d) (ps.map worth) (fun x hx => by
        obtain ⟨p, hp, rfl⟩ := List.mem_map.mp hx
        exact (ih p hp).2) (by rw [List.length_map]; omega)
      rw [List.length_map] at t2
      rw [worthS_sum] at t1 t2
      refine ⟨?_, by rw [worth]; exact t2.mono (by show _ ≤ 3 * Bd d + 8; omega)⟩
      show runF 1 3 (B_proportion_of (F_proportion_of f)) _ = _
      unfold runF B_proportion_of
      simp only [sSeq, sIf, sNil, sAsg, sRet, sDrop, cV, cAnd, cOr, cNot, cTrue, eOp2, eOp1, eVar, eC, eApp, aCons, aNil, eIf, eAnd, eOr, eNot, eChain, eNeg, asB, dLt, dLe, dGt, dGe, dSub, dIx, dAbs, dMin, dMax, dLen, dList, dTuple, mkTup, mkLst, gSet, QL.gTup, gTupF, unTup, sPar2, xDat, xOwn, xNil, noScr, sOwn, oLst, iSeq, asSeq, iApp, endOf, List.map_cons, List.map_nil, List.length_cons, List.length_nil, List.length_set, List.replicate, List.cons_append, List.nil_append, List.getElem?_cons_zero, List.getElem?_cons_succ, List.getElem?_nil, Option.bind_some, Option.bind_none, Option.map_some, Option.map_none, List.set_cons_zero, List.set_cons_succ, List.set_nil, Bool.false_eq_true, if_false, if_true, ne_eq, not_false_eq_true, not_true_eq_false, and_self, and_true, true_and, Bool.not_true, Bool.not_false, Bool.and_true, Bool.true_and, Nat.reduceAdd, Nat.reduceSub, Nat.reduceLeDiff, Nat.reduceLT, Nat.reduceEqDiff, Nat.lt_irrefl, decide_true, decide_false, isa1, isa2, isa3, isa4, isa5, isa6, isa7, isa8, atI_0, atI_1, atI_2, atI_3, Option.getD_some, ownL, scrAt, toD, hl, key, dEq_word, t1, worth]
    | false =>
      have key2 := eLc_pure (i := 2) (ρ := [.dat (toD (.node false ps)), .dat (.list ((ps.map worth).map fr)), .un]) (it := iSeq (eVar 1)) (m := eApp F_over (aCons (eC (.tuple [(.int 1), (.int 1)])) (aCons (eVar 2) aNil))) (g := fr) (h := fun x => fr (1 / x)) (ps.map worth)
        (by simp only [sSeq, sIf, sNil, sAsg, sRet, sDrop, cV, cAnd, cOr, cNot, cTrue, eOp2, eOp1, eVar, eC, eApp, aCons, aNil, eIf, eAnd, eOr, eNot, eChain, eNeg, asB, dLt, dLe, dGt, dGe, dSub, dIx, dAbs, dMin, dMax, dLen, dList, dTuple, mkTup, mkLst, gSet, QL.gTup, gTupF, unTup, sPar2, xDat, xOwn, xNil, noScr, sOwn, oLst, iSeq, asSeq, iApp, endOf, List.map_cons, List.map_nil, List.length_cons, List.length_nil, List.length_set, List.replicate, List.cons_append, List.nil_append, List.getElem?_cons_zero, List.getElem?_cons_succ, List.getElem?_nil, Option.bind_some, Option.bind_none, Option.map_some, Option.map_none, List.set_cons_zero, List.set_cons_succ, List.set_nil, Bool.false_eq_true, if_false, if_true, ne_eq, not_false_eq_true, not_true_eq_false, and_self, and_true, true_and, Bool.not_true, Bool.not_false, Bool.and_true, Bool.true_and, Nat.reduceAdd, Nat.reduceSub, Nat.reduceLeDiff, Nat.reduceLT, Nat.reduceEqDiff, Nat.lt_irrefl, decide_true, decide_false, isa1, isa2, isa3, isa4, isa5, isa6, isa7, isa8, atI_0, atI_1, atI_2, atI_3, Option.getD_some, ownL, scrAt]) (.inl rfl) (by rw [List.length_map]; omega) (fun x hx => by
          obtain ⟨p, hp, rfl⟩ := List.mem_map.mp hx
          have := F_over_eq Sz_one (ih p hp).2 (by omega) (pos_ne (hpos p hp))
          rw [fr_one] at this
          simp only [sSeq, sIf, sNil, sAsg, sRet, sDrop, cV, cAnd, cOr, cNot, cTrue, eOp2, eOp1, eVar, eC, eApp, aCons, aNil, eIf, eAnd, eOr, eNot, eChain, eNeg, asB, dLt, dLe, dGt, dGe, dSub, dIx, dAbs, dMin, dMax, dLen, dList, dTuple, mkTup, mkLst, gSet, QL.gTup, gTupF, unTup, sPar2, xDat, xOwn, xNil, noScr, sOwn, oLst, iSeq, asSeq, iApp, endOf, List.map_cons, List.map_nil, List.length_cons, List.length_nil, List.length_set, List.replicate, List.cons_append, List.nil_append, List.getElem?_cons_zero, List.getElem?_cons_succ, List.getElem?_nil, Option.bind_some, Option.bind_none, Option.map_some, Option.map_none, List.set_cons_zero, List.set_cons_succ, List.set_nil, Bool.false_eq_true, if_false, if_true, ne_eq, not_false_eq_true, not_true_eq_false, and_self, and_true, true_and, Bool.not_true, Bool.not_false, Bool.and_true, Bool.true_and, Nat.reduceAdd, Nat.reduceSub, Nat.reduceLeDiff, Nat.reduceLT, Nat.reduceEqDiff, Nat.lt_irrefl, decide_true, decide_false, isa1, isa2, isa3, isa4, isa5, isa6, isa7, isa8, atI_0, atI_1, atI_2, atI_3, Option.getD_some, ownL, scrAt, this])
      have e2 : (ps.map worth).map (fun x => fr (1 / x)) = (ps.map fun p => 1 / worth p).map fr := by simp
      rw [e2] at key2
      obtain ⟨t1, t2⟩ := F_total_eq (B := Bd d + 1) (ps.map fun p => 1 / worth p) (fun x hx => by
        obtain ⟨p, hp, rfl⟩ := List.mem_map.mp hx
        exact (Sz_one.div (ih p hp).2 (pos_ne (hpos p hp))).mono (by omega)) (by
          rw [List.length_map]
          have : ps.length * (Bd d + 1 + 1) ≤ 3 * (Bd d + 1 + 1) := Nat.mul_le_mul_right _ w2
          omega)
      rw [List.length_map] at t2
      rw [invS_sum] at t1 t2
      have hm2 : ps.length * (Bd d + 1 + 1) ≤ 3 * (Bd d + 1 + 1) := Nat.mul_le_mul_right _ w2
      have ip := invS_pos' hpos hn
      have ho := F_over_eq Sz_one t2 (by omega) (pos_ne ip)
      rw [fr_one] at ho
      refine ⟨?_, by rw [worth]; exact (Sz_one.div t2 (pos_ne ip)).mono (by show _ ≤ 3 * Bd d + 8; omega)⟩
      simp only [toD] at key2
      show runF 1 3 (B_proportion_of (F_proportion_of f)) _ = _
      unfold runF B_proportion_of
      simp only [sSeq, sIf, sNil, sAsg, sRet, sDrop, cV, cAnd, cOr, cNot, cTrue, eOp2, eOp1, eVar, eC, eApp, aCons, aNil, eIf, eAnd, eOr, eNot, eChain, eNeg, asB, dLt, dLe, dGt, dGe, dSub, dIx, dAbs, dMin, dMax, dLen, dList, dTuple, mkTup, mkLst, gSet, QL.gTup, gTupF, unTup, sPar2, xDat, xOwn, xNil, noScr, sOwn, oLst, iSeq, asSeq, iApp, endOf, List.map_cons, List.map_nil, List.length_cons, List.length_nil, List.length_set, List.replicate, List.cons_append, List.nil_append, List.getElem?_cons_zero, List.getElem?_cons_succ, List.getElem?_nil, Option.bind_some, Option.bind_none, Option.map_some, Option.map_none, List.set_cons_zero, List.set_cons_succ, List.set_nil, Bool.false_eq_true, if_false, if_true, ne_eq, not_false_eq_true, not_true_eq_false, and_self, and_true, true_and, Bool.not_true, Bool.not_false, Bool.and_true, Bool.true_and, Nat.reduceAdd, Nat.reduceSub, Nat.reduceLeDiff, Nat.reduceLT, Nat.reduceEqDiff, Nat.lt_irrefl, decide_true, decide_false, isa1, isa2, isa3, isa4, isa5, isa6, isa7, isa8, atI_0, atI_1, atI_2, atI_3, Option.getD_some, ownL, scrAt, toD, hl, key, key2, dEq_word, t1, ho, worth]
end QP
set_option Elab.async false
set_option linter.all false
set_option maxRecDepth 100000
set_option maxHeartbeats 1000000
namespace QP
open PySem PySem.Spec PyProof.Rows L2 QL

/-! ### turned by a quarter -/
mutual
def qt : Nest → Nest
  | .leaf x => .leaf (1 / x)
  | .node b ps => .node (!b) (qts ps)
def qts : List Nest → List Nest
  | [] => []
  | p :: ps => qt p :: qts ps
end
theorem qts_map : ∀ ps, qts ps = ps.map qt
  | [] => rfl
  | p :: ps => by rw [qts, qts_map ps]; rfl
theorem inv_num {x : Rat} (h : 0 < x) : (1 / x).num = x.den ∧ ((1 / x).den : Int) = x.num := by
  have hp := num_pos h
  have e : 1 / x = x⁻¹ := by rw [Rat.div_def]; grind
  rw [e]
  refine ⟨?_, ?_⟩
  · rw [Rat.num_inv, Int.sign_eq_one_of_pos hp]; omega
  · rw [Rat.den_inv]
    rw [if_neg (by omega)]
    omega
theorem fr_inv {x : Rat} (h : 0 < x) : fr (1 / x) = .tuple [.int x.den, .int x.num] := by
  obtain ⟨h1, h2⟩ := inv_num h
  unfold fr
  rw [h1, h2]
theorem Sz_inv {n : Nat} {x : Rat} (h : 0 < x) (hs : Sz n x) : Sz n (1 / x) := by
  obtain ⟨h1, h2⟩ := inv_num h
  refine ⟨by rw [h1]; exact hs.2, ?_⟩
  have := hs.1
  omega
theorem one_div_div {x : Rat} (h : 0 < x) : 1 / (1 / x) = x := by
  have := pos_ne h
  grind
theorem Wf_qt : ∀ (d : Nat) (n : Nest), Wf d n → Wf d (qt n)
  | d, .leaf x, w => by
    unfold Wf at w
    rw [qt]
    unfold Wf
    exact ⟨div_pos (by decide) w.1, Sz_inv w.1 w.2⟩
  | 0, .node _ _, w => by unfold Wf at w; exact w.elim
  | d + 1, .node b ps, w => by
    unfold Wf at w
    rw [qt]
    unfold Wf
    have : ∀ qs : List Nest, (∀ q ∈ qs, Wf d q) → Wfs d (qts qs) := fun qs => by
      induction qs with
      | nil => intro _; rw [qts]; unfold Wfs; trivial
      | cons q qs ih =>
        intro h
        rw [qts]
        unfold Wfs
        exact ⟨Wf_qt d q (h q List.mem_cons_self), ih fun z hz => h z (List.mem_cons_of_mem _ hz)⟩
    refine ⟨by rw [qts_map, List.length_map]; exact w.1, by rw [qts_map, List.length_map]; exact w.2.1, this ps fun q hq => Wfs_mem w.2.2 q hq⟩
theorem leaves_qtS : ∀ ps : List Nest, (∀ p ∈ ps, (leaves (qt p)).length = (leaves p).length) → (leavesS (qts ps)).length = (leavesS ps).length
  | [], _ => rfl
  | p :: ps, h => by
    rw [qts, leavesS, leavesS, List.length_append, List.length_append, h p List.mem_cons_self, leaves_qtS ps fun q hq => h q (List.mem_cons_of_mem _ hq)]
theorem leaves_qt : ∀ (d : Nat) (n : Nest), Wf d n → (leaves (qt n)).length = (leaves n).length
  | d, .leaf x, w => rfl
  | 0, .node _ _, w => by unfold Wf at w; exact w.elim
  | d + 1, .node b ps, w => by
    unfold Wf at w
    rw [qt, leaves, leaves]
    exact leaves_qtS ps fun p hp => leaves_qt d p (Wfs_mem w.2.2 p hp)
theorem qt_qt : ∀ (d : Nat) (n : Nest), Wf d n → qt (qt n) = n
  | d, .leaf x, w => by
    unfold Wf at w
    rw [qt, qt, one_div_div w.1]
  | 0, .node _ _, w => by unfold Wf at w; exact w.elim
  | d + 1, .node b ps, w => by
    unfold Wf at w
    rw [qt, qt, Bool.not_not]
    congr 1
    rw [qts_map, qts_map, List.map_map]
    conv => rhs; rw [← List.map_id ps]
    exact List.map_congr_left fun p hp => qt_qt d p (Wfs_mem w.2.2 p hp)
theorem worth_qt : ∀ (d : Nat) (n : Nest), Wf d n → worth (qt n) = 1 / worth n
  | d, .leaf x, w => by rw [qt, worth, worth]
  | 0, .node _ _, w => by unfold Wf at w; exact w.elim
  | d + 1, .node b ps, w => by
    unfold Wf at w
    have ih : ∀ p ∈ ps, worth (qt p) = 1 / worth p := fun p hp => worth_qt d p (Wfs_mem w.2.2 p hp)
    have hp : ∀ p ∈ ps, 0 < worth p := fun p hp => worth_pos d p (Wfs_mem w.2.2 p hp)
    have e1 : ∀ qs : List Nest, (∀ p ∈ qs, worth (qt p) = 1 / worth p) → worthS (qts qs) = invS qs := fun qs => by
      induction qs with
      | nil => intro _; rfl
      | cons q qs i => intro h; rw [qts, worthS, invS, h q List.mem_cons_self, i fun z hz => h z (List.mem_cons_of_mem _ hz)]
    have e2 : ∀ qs : List Nest, (∀ p ∈ qs, worth (qt p) = 1 / worth p) → (∀ p ∈ qs, 0 < worth p) → invS (qts qs) = worthS qs := fun qs => by
      induction qs with
      | nil => intro _ _; rfl
      | cons q qs i =>
        intro h h'
        rw [qts, invS, worthS, h q List.mem_cons_self, one_div_div (h' q List.mem_cons_self), i (fun z hz => h z (List.mem_cons_of_mem _ hz)) fun z hz => h' z (List.mem_cons_of_mem _ hz)]
    have hn : ps ≠ [] := fun z => by rw [z] at w; simp at w
    cases b with
    | true => rw [qt]; show worth (.node false _) = _; rw [worth, worth, e2 ps ih hp]
    | false => rw [qt]; show worth (.node true _) = _; rw [worth, worth, e1 ps ih, one_div_div (invS_pos' hp hn)]
theorem F_quarter_of_eq : ∀ (d f : Nat) (n : Nest), d < f → Wf d n → d ≤ 3 → F_quarter_of f [toD n] = some (toD (qt n))
  | _, 0, _, h, _, _ => absurd h (Nat.not_lt_zero _)
  | d, f + 1, .leaf x, _, w, _ => by
    unfold Wf at w
    have h := leaf_true x
    have ho := F_over_eq Sz_one w.2 (by decide) (pos_ne w.1)
    rw [fr_one] at ho
    show runF 1 3 (B_quarter_of (F_quarter_of f)) _ = _
    unfold runF B_quarter_of
    simp only [sSeq, sIf, sNil, sAsg, sRet, sDrop, cV, cAnd, cOr, cNot, cTrue, eOp2, eOp1, eVar, eC, eApp, aCons, aNil, eIf, eAnd, eOr, eNot, eChain, eNeg, asB, dLt, dLe, dGt, dGe, dSub, dIx, dAbs, dMin, dMax, dLen, dList, dTuple, mkTup, mkLst, gSet, QL.gTup, gTupF, unTup, sPar2, xDat, xOwn, xNil, noScr, sOwn, oLst, iSeq, asSeq, iApp, endOf, List.map_cons, List.map_nil, List.length_cons, List.length_nil, List.length_set, List.replicate, List.cons_append, List.nil_append, List.getElem?_cons_zero, List.getElem?_cons_succ, List.getElem?_nil, Option.bind_some, Option.bind_none, Option.map_some, Option.map_none, List.set_cons_zero, List.set_cons_succ, List.set_nil, Bool.false_eq_true, if_false, if_true, ne_eq, not_false_eq_true, not_true_eq_false, and_self, and_true, true_and, Bool.not_true, Bool.not_false, Bool.and_true, Bool.true_and, Nat.reduceAdd, Nat.reduceSub, Nat.reduceLeDiff, Nat.reduceLT, Nat.reduceEqDiff, Nat.lt_irrefl, decide_true, decide_false, isa1, isa2, isa3, isa4, isa5, isa6, isa7, isa8, atI_0, atI_1, atI_2, atI_3, Option.getD_some, ownL, scrAt, toD, h, ho, qt]
  | 0, f + 1, .node _ _, _, w, _ => by unfold Wf at w; exact w.elim
  | d + 1, f + 1, .node b ps, hf, w, hd => by
    unfold Wf at w
    obtain ⟨w1, w2, w3⟩ := w
    have ih := fun p hp => F_quarter_of_eq d f p (by omega) (Wfs_mem w3 p hp) (by omega)
    have hl := leaf_node (word b) (toDs ps)
    have key := fun s1 => eLc_pure (i := 2) (ρ := [.dat (toD (.node b ps)), s1, .un]) (it := iSeq (eOp2 dIx (eVar 0) (eC (.int 1)))) (m := eApp (F_quarter_of f) (aCons (eVar 2) aNil)) (g := toD) (h := fun p => toD (qt p)) ps
      (by simp only [sSeq, sIf, sNil, sAsg, sRet, sDrop, cV, cAnd, cOr, cNot, cTrue, eOp2, eOp1, eVar, eC, eApp, aCons, aNil, eIf, eAnd, eOr, eNot, eChain, eNeg, asB, dLt, dLe, dGt, dGe, dSub, dIx, dAbs, dMin, dMax, dLen, dList, dTuple, mkTup, mkLst, gSet, QL.gTup, gTupF, unTup, sPar2, xDat, xOwn, xNil, noScr, sOwn, oLst, iSeq, asSeq, iApp, endOf, List.map_cons, List.map_nil, List.length_cons, List.length_nil, List.length_set, List.replicate, List.cons_append, List.nil_append, List.getElem?_cons_zero, List.getElem?_cons_succ, List.getElem?_nil, Option.bind_some, Option.bind_none, Option.map_some, Option.map_none, List.set_cons_zero, List.set_cons_succ, List.set_nil, Bool.false_eq_true, if_false, if_true, ne_eq, not_false_eq_true, not_true_eq_false, and_self, and_true, true_and, Bool.not_true, Bool.not_false, Bool.and_true, Bool.true_and, Nat.reduceAdd, Nat.reduceSub, Nat.reduceLeDiff, Nat.reduceLT, Nat.reduceEqDiff, Nat.lt_irrefl, decide_true, decide_false, isa1, isa2, isa3, isa4, isa5, isa6, isa7, isa8, atI_0, atI_1, atI_2, atI_3, Option.getD_some, ownL, scrAt, toD, toDs_map]) (.inl rfl) (by omega) (fun p hp => by
        have := ih p hp
        simp only [sSeq, sIf, sNil, sAsg, sRet, sDrop, cV, cAnd, cOr, cNot, cTrue, eOp2, eOp1, eVar, eC, eApp, aCons, aNil, eIf, eAnd, eOr, eNot, eChain, eNeg, asB, dLt, dLe, dGt, dGe, dSub, dIx, dAbs, dMin, dMax, dLen, dList, dTuple, mkTup, mkLst, gSet, QL.gTup, gTupF, unTup, sPar2, xDat, xOwn, xNil, noScr, sOwn, oLst, iSeq, asSeq, iApp, endOf, List.map_cons, List.map_nil, List.length_cons, List.length_nil, List.length_set, List.replicate, List.cons_append, List.nil_append, List.getElem?_cons_zero, List.getElem?_cons_succ, List.getElem?_nil, Option.bind_some, Option.bind_none, Option.map_some, Option.map_none, List.set_cons_zero, List.set_cons_succ, List.set_nil, Bool.false_eq_true, if_false, if_true, ne_eq, not_false_eq_true, not_true_eq_false, and_self, and_true, true_and, Bool.not_true, Bool.not_false, Bool.and_true, Bool.true_and, Nat.reduceAdd, Nat.reduceSub, Nat.reduceLeDiff, Nat.reduceLT, Nat.reduceEqDiff, Nat.lt_irrefl, decide_true, decide_false, isa1, isa2, isa3, isa4, isa5, isa6, isa7, isa8, atI_0, atI_1, atI_2, atI_3, Option.getD_some, ownL, scrAt, this])
    have e1 : ps.map (fun p => toD (qt p)) = toDs (qts ps) := by rw [toDs_map, qts_map, List.map_map]; rfl
    simp only [e1, toD] at key
    show runF 1 3 (B_quarter_of (F_quarter_of f)) _ = _
    unfold runF B_quarter_of
    simp only [sSeq, sIf, sNil, sAsg, sRet, sDrop, cV, cAnd, cOr, cNot, cTrue, eOp2, eOp1, eVar, eC, eApp, aCons, aNil, eIf, eAnd, eOr, eNot, eChain, eNeg, asB, dLt, dLe, dGt, dGe, dSub, dIx, dAbs, dMin, dMax, dLen, dList, dTuple, mkTup, mkLst, gSet, QL.gTup, gTupF, unTup, sPar2, xDat, xOwn, xNil, noScr, sOwn, oLst, iSeq, asSeq, iApp, endOf, List.map_cons, List.map_nil, List.length_cons, List.length_nil, List.length_set, List.replicate, List.cons_append, List.nil_append, List.getElem?_cons_zero, List.getElem?_cons_succ, List.getElem?_nil, Option.bind_some, Option.bind_none, Option.map_some, Option.map_none, List.set_cons_zero, List.set_cons_succ, List.set_nil, Bool.false_eq_true, if_false, if_true, ne_eq, not_false_eq_true, not_true_eq_false, and_self, and_true, true_and, Bool.not_true, Bool.not_false, Bool.and_true, Bool.true_and, Nat.reduceAdd, Nat.reduceSub, Nat.reduceLeDiff, Nat.reduceLT, Nat.reduceEqDiff, Nat.lt_irrefl, decide_true, decide_false, isa1, isa2, isa3, isa4, isa5, isa6, isa7, isa8, atI_0, atI_1, atI_2, atI_3, Option.getD_some, ownL, scrAt, toD, hl, dEq_word, key, qt]
    cases b <;> (simp only [sSeq, sIf, sNil, sAsg, sRet, sDrop, cV, cAnd, cOr, cNot, cTrue, eOp2, eOp1, eVar, eC, eApp, aCons, aNil, eIf, eAnd, eOr, eNot, eChain, eNeg, asB, dLt, dLe, dGt, dGe, dSub, dIx, dAbs, dMin, dMax, dLen, dList, dTuple, mkTup, mkLst, gSet, QL.gTup, gTupF, unTup, sPar2, xDat, xOwn, xNil, noScr, sOwn, oLst, iSeq, asSeq, iApp, endOf, List.map_cons, List.map_nil, List.length_cons, List.length_nil, List.length_set, List.replicate, List.cons_append, List.nil_append, List.getElem?_cons_zero, List.getElem?_cons_succ, List.getElem?_nil, Option.bind_some, Option.bind_none, Option.map_some, Option.map_none, List.set_cons_zero, List.set_cons_succ, List.set_nil, Bool.false_eq_true, if_false, if_true, ne_eq, not_false_eq_true, not_true_eq_false, and_self, and_true, true_and, Bool.not_true, Bool.not_false, Bool.and_true, Bool.true_and, Nat.reduceAdd, Nat.reduceSub, Nat.reduceLeDiff, Nat.reduceLT, Nat.reduceEqDiff, Nat.lt_irrefl, decide_true, decide_false, isa1, isa2, isa3, isa4, isa5, isa6, isa7, isa8, atI_0, atI_1, atI_2, atI_3, Option.getD_some, ownL, scrAt, key]; rfl)
theorem F__law_quarter_eq : ∀ (d f : Nat) (n : Nest), d < f → Wf d n → d ≤ 3 → F__law_quarter f [toD n] = some (toD (qt n))
  | _, 0, _, h, _, _ => absurd h (Nat.not_lt_zero _)
  | d, f + 1, .leaf x, _, w, _ => by
    unfold Wf at w
    have e := fr_inv w.1
    rw [qt, toD, toD, e]
    show runF 1 2 (B__law_quarter (F__law_quarter f)) _ = _
    unfold runF B__law_quarter fr
    simp only [sSeq, sIf, sNil, sAsg, sRet, sDrop, cV, cAnd, cOr, cNot, cTrue, eOp2, eOp1, eVar, eC, eApp, aCons, aNil, eIf, eAnd, eOr, eNot, eChain, eNeg, asB, dLt, dLe, dGt, dGe, dSub, dIx, dAbs, dMin, dMax, dLen, dList, dTuple, mkTup, mkLst, gSet, QL.gTup, gTupF, unTup, sPar2, xDat, xOwn, xNil, noScr, sOwn, oLst, iSeq, asSeq, iApp, endOf, List.map_cons, List.map_nil, List.length_cons, List.length_nil, List.length_set, List.replicate, List.cons_append, List.nil_append, List.getElem?_cons_zero, List.getElem?_cons_succ, List.getElem?_nil, Option.bind_some, Option.bind_none, Option.map_some, Option.map_none, List.set_cons_zero, List.set_cons_succ, List.set_nil, Bool.false_eq_true, if_false, if_true, ne_eq, not_false_eq_true, not_true_eq_false, and_self, and_true, true_and, Bool.not_true, Bool.not_false, Bool.and_true, Bool.true_and, Nat.reduceAdd, Nat.reduceSub, Nat.reduceLeDiff, Nat.reduceLT, Nat.reduceEqDiff, Nat.lt_irrefl, decide_true, decide_false, isa1, isa2, isa3, isa4, isa5, isa6, isa7, isa8, atI_0, atI_1, atI_2, atI_3, Option.getD_some, ownL, scrAt]
  | 0, f + 1, .node _ _, _, w, _ => by unfold Wf at w; exact w.elim
  | d + 1, f + 1, .node b ps, hf, w, hd => by
    unfold Wf at w
    obtain ⟨w1, w2, w3⟩ := w
    have ih := fun p hp => F__law_quarter_eq d f p (by omega) (Wfs_mem w3 p hp) (by omega)
    have key := eLc_pure (i := 1) (ρ := [.dat (toD (.node b ps)), .un]) (it := iSeq (eOp2 dIx (eVar 0) (eC (.int 1)))) (m := eApp (F__law_quarter f) (aCons (eVar 1) aNil)) (g := toD) (h := fun p => toD (qt p)) ps
      (by simp only [sSeq, sIf, sNil, sAsg, sRet, sDrop, cV, cAnd, cOr, cNot, cTrue, eOp2, eOp1, eVar, eC, eApp, aCons, aNil, eIf, eAnd, eOr, eNot, eChain, eNeg, asB, dLt, dLe, dGt, dGe, dSub, dIx, dAbs, dMin, dMax, dLen, dList, dTuple, mkTup, mkLst, gSet, QL.gTup, gTupF, unTup, sPar2, xDat, xOwn, xNil, noScr, sOwn, oLst, iSeq, asSeq, iApp, endOf, List.map_cons, List.map_nil, List.length_cons, List.length_nil, List.length_set, List.replicate, List.cons_append, List.nil_append, List.getElem?_cons_zero, List.getElem?_cons_succ, List.getElem?_nil, Option.bind_some, Option.bind_none, Option.map_some, Option.map_none, List.set_cons_zero, List.set_cons_succ, List.set_nil, Bool.false_eq_true, if_false, if_true, ne_eq, not_false_eq_true, not_true_eq_false, and_self, and_true, true_and, Bool.not_true, Bool.not_false, Bool.and_true, Bool.true_and, Nat.reduceAdd, Nat.reduceSub, Nat.reduceLeDiff, Nat.reduceLT, Nat.reduceEqDiff, Nat.lt_irrefl, decide_true, decide_false, isa1, isa2, isa3, isa4, isa5, isa6, isa7, isa8, atI_0, atI_1, atI_2, atI_3, Option.getD_some, ownL, scrAt, toD, toDs_map]) (.inl rfl) (by omega) (fun p hp => by
        have := ih p hp
        simp only [sSeq, sIf, sNil, sAsg, sRet, sDrop, cV, cAnd, cOr, cNot, cTrue, eOp2, eOp1, eVar, eC, eApp, aCons, aNil, eIf, eAnd, eOr, eNot, eChain, eNeg, asB, dLt, dLe, dGt, dGe, dSub, dIx, dAbs, dMin, dMax, dLen, dList, dTuple, mkTup, mkLst, gSet, QL.gTup, gTupF, unTup, sPar2, xDat, xOwn, xNil, noScr, sOwn, oLst, iSeq, asSeq, iApp, endOf, List.map_cons, List.map_nil, List.length_cons, List.length_nil, List.length_set, List.replicate, List.cons_append, List.nil_append, List.getElem?_cons_zero, List.getElem?_cons_succ, List.getElem?_nil, Option.bind_some, Option.bind_none, Option.map_some, Option.map_none, List.set_cons_zero, List.set_cons_succ, List.set_nil, Bool.false_eq_true, if_false, if_true, ne_eq, not_false_eq_true, not_true_eq_false, and_self, and_true, true_and, Bool.not_true, Bool.not_false, Bool.and_true, Bool.true_and, Nat.reduceAdd, Nat.reduceSub, Nat.reduceLeDiff, Nat.reduceLT, Nat.reduceEqDiff, Nat.lt_irrefl, decide_true, decide_false, isa1, isa2, isa3, isa4, isa5, isa6, isa7, isa8, atI_0, atI_1, atI_2, atI_3, Option.getD_some, ownL, scrAt, this])
    have e1 : ps.map (fun p => toD (qt p)) = toDs (qts ps) := by rw [toDs_map, qts_map, List.map_map]; rfl
    simp only [e1, toD] at key
    show runF 1 2 (B__law_quarter (F__law_quarter f)) _ = _
    unfold runF B__law_quarter
    simp only [sSeq, sIf, sNil, sAsg, sRet, sDrop, cV, cAnd, cOr, cNot, cTrue, eOp2, eOp1, eVar, eC, eApp, aCons, aNil, eIf, eAnd, eOr, eNot, eChain, eNeg, asB, dLt, dLe, dGt, dGe, dSub, dIx, dAbs, dMin, dMax, dLen, dList, dTuple, mkTup, mkLst, gSet, QL.gTup, gTupF, unTup, sPar2, xDat, xOwn, xNil, noScr, sOwn, oLst, iSeq, asSeq, iApp, endOf, List.map_cons, List.map_nil, List.length_cons, List.length_nil, List.length_set, List.replicate, List.cons_append, List.nil_append, List.getElem?_cons_zero, List.getElem?_cons_succ, List.getElem?_nil, Option.bind_some, Option.bind_none, Option.map_some, Option.map_none, List.set_cons_zero, List.set_cons_succ, List.set_nil, Bool.false_eq_true, if_false, if_true, ne_eq, not_false_eq_true, not_true_eq_false, and_self, and_true, true_and, Bool.not_true, Bool.not_false, Bool.and_true, Bool.true_and, Nat.reduceAdd, Nat.reduceSub, Nat.reduceLeDiff, Nat.reduceLT, Nat.reduceEqDiff, Nat.lt_irrefl, decide_true, decide_false, isa1, isa2, isa3, isa4, isa5, isa6, isa7, isa8, atI_0, atI_1, atI_2, atI_3, Option.getD_some, ownL, scrAt, toD, dEq_word, key, qt]
    cases b <;> (simp only [sSeq, sIf, sNil, sAsg, sRet, sDrop, cV, cAnd, cOr, cNot, cTrue, eOp2, eOp1, eVar, eC, eApp, aCons, aNil, eIf, eAnd, eOr, eNot, eChain, eNeg, asB, dLt, dLe, dGt, dGe, dSub, dIx, dAbs, dMin, dMax, dLen, dList, dTuple, mkTup, mkLst, gSet, QL.gTup, gTupF, unTup, sPar2, xDat, xOwn, xNil, noScr, sOwn, oLst, iSeq, asSeq, iApp, endOf, List.map_cons, List.map_nil, List.length_cons, List.length_nil, List.length_set, List.replicate, List.cons_append, List.nil_append, List.getElem?_cons_zero, List.getElem?_cons_succ, List.getElem?_nil, Option.bind_some, Option.bind_none, Option.map_some, Option.map_none, List.set_cons_zero, List.set_cons_succ, List.set_nil, Bool.false_eq_true, if_false, if_true, ne_eq, not_false_eq_true, not_true_eq_false, and_self, and_true, true_and, Bool.not_true, Bool.not_false, Bool.and_true, Bool.true_and, Nat.reduceAdd, Nat.reduceSub, Nat.reduceLeDiff, Nat.reduceLT, Nat.reduceEqDiff, Nat.lt_irrefl, decide_true, decide_false, isa1, isa2, isa3, isa4, isa5, isa6, isa7, isa8, atI_0, atI_1, atI_2, atI_3, Option.getD_some, ownL, scrAt, key]; rfl)

/-! ### drawn -/
abbrev Box := Rat × Rat × Rat × Rat
def boxD (b : Box) : D := .tuple [fr b.1, fr b.2.1, fr b.2.2.1, fr b.2.2.2]
mutual
def drw : Nest → Rat → Rat → Rat → List Box
  | .leaf x, l, t, h => [(l, t, x * h, h)]
  | .node true ps, l, t, h => drwA ps l t h
  | .node false ps, l, t, h => drwB (worth (.node false ps) * h) ps l t
def drwA : List Nest → Rat → Rat → Rat → List Box
  | [], _, _, _ => []
  | p :: ps, l, t, h => drw p l t h ++ drwA ps (l + worth p * h) t h
def drwB : Rat → List Nest → Rat → Rat → List Box
  | _, [], _, _ => []
  | w, p :: ps, l, t => drw p l t (w / worth p) ++ drwB w ps l (t + w / worth p)
end
/-- turned: places and sizes exchanged, and multiplied -/
def turn (c : Rat) (b : Box) : Box := (b.2.1 * c, b.1 * c, b.2.2.2 * c, b.2.2.1 * c)
theorem drwA_turn {d : Nat} (ih : ∀ n, Wf d n → ∀ l t h c, drw (qt n) (t * c) (l * c) (worth n * h * c) = (drw n l t h).map (turn c)) : ∀ (ps : List Nest), (∀ p ∈ ps, Wf d p) → ∀ l t h c, drwB (h * c) (qts ps) (t * c) (l * c) = (drwA ps l t h).map (turn c)
  | [], _, l, t, h, c => by rw [qts, drwB, drwA]; rfl
  | p :: ps, hw, l, t, h, c => by
    have w := hw p List.mem_cons_self
    have hp := worth_pos d p w
    have e1 : h * c / worth (qt p) = worth p * h * c := by
      rw [worth_qt d p w]
      have := pos_ne hp
      grind
    have e2 : l * c + worth p * h * c = (l + worth p * h) * c := by grind
    rw [qts, drwB, drwA, e1, ih p w, e2, drwA_turn ih ps (fun q hq => hw q (List.mem_cons_of_mem _ hq)), List.map_append]
theorem drwB_turn {d : Nat} (ih : ∀ n, Wf d n → ∀ l t h c, drw (qt n) (t * c) (l * c) (worth n * h * c) = (drw n l t h).map (turn c)) : ∀ (ps : List Nest), (∀ p ∈ ps, Wf d p) → ∀ l t w c, drwA (qts ps) (t * c) (l * c) (w * c) = (drwB w ps l t).map (turn c)
  | [], _, l, t, w, c => by rw [qts, drwB, drwA]; rfl
  | p :: ps, hw, l, t, w, c => by
    have wp := hw p List.mem_cons_self
    have hp := worth_pos d p wp
    have e0 : w * c = worth p * (w / worth p) * c := by
      have := pos_ne hp
      grind
    have e2 : t * c + worth (qt p) * (w * c) = (t + w / worth p) * c := by
      rw [worth_qt d p wp]
      have := pos_ne hp
      grind
    rw [qts, drwB, drwA, e2, drwB_turn ih ps (fun q hq => hw q (List.mem_cons_of_mem _ hq)), List.map_append]
    congr 1
    rw [e0]
    exact ih p wp l t (w / worth p) c
theorem drw_turn : ∀ (d : Nat) (n : Nest), Wf d n → ∀ l t h c, drw (qt n) (t * c) (l * c) (worth n * h * c) = (drw n l t h).map (turn c)
  | d, .leaf x, w, l, t, h, c => by
    unfold Wf at w
    rw [qt, drw, drw, worth]
    have e : 1 / x * (x * h * c) = h * c := by
      have := pos_ne w.1
      grind
    rw [e]
    rfl
  | 0, .node _ _, w, _, _, _, _ => by unfold Wf at w; exact w.elim
  | d + 1, .node b ps, w, l, t, h, c => by
    have w0 := w
    unfold Wf at w
    have ih := drw_turn d
    have hw : ∀ p ∈ ps, Wf d p := fun p hp => Wfs_mem w.2.2 p hp
    cases b with
    | true =>
      have hq := worth_qt (d + 1) _ w0
      rw [qt] at hq ⊢
      have hq : worth (.node false (qts ps)) = 1 / worth (.node true ps) := hq
      show drw (.node false (qts ps)) _ _ _ = _
      rw [drw, drw, hq]
      have e : 1 / worth (.node true ps) * (worth (.node true ps) * h * c) = h * c := by
        have := pos_ne (worth_pos (d + 1) _ w0)
        grind
      rw [e]
      exact drwA_turn ih ps hw l t h c
    | false =>
      rw [qt]
      show drw (.node true (qts ps)) _ _ _ = _
      rw [drw, drw]
      exact drwB_turn ih ps hw l t _ c
/-! ### sizes of the drawing -/
def need : Nat → Nat → Nat
  | 0, h => h + 10
  | d + 1, h => 3 * (h + Bd (d + 1) + Bd d + 2) + need d (h + Bd (d + 1) + Bd d)
theorem need_ge : ∀ d h, h + 10 ≤ need d h
  | 0, h => Nat.le_refl _
  | d + 1, h => by
    have := need_ge d (h + Bd (d + 1) + Bd d)
    unfold need
    omega
theorem need_mono : ∀ d {h h'}, h ≤ h' → need d h ≤ need d h'
  | 0, h, h', e => by unfold need; omega
  | d + 1, h, h', e => by
    have := need_mono d (h := h + Bd (d + 1) + Bd d) (h' := h' + Bd (d + 1) + Bd d) (by omega)
    unfold need
    omega
theorem Bd_mono (d : Nat) : Bd d ≤ Bd (d + 1) := by show _ ≤ 3 * Bd d + 8; omega
def BoxOk (b : Box) : Prop := Sz 8000 b.1 ∧ Sz 8000 b.2.1 ∧ Sz 8000 b.2.2.1 ∧ Sz 8000 b.2.2.2
def DrawOk (d : Nat) (G : List D → Option D) : Prop := ∀ n, Wf d n → ∀ (l t h : Rat) (A H : Nat), Sz A l → Sz A t → Sz H h → A + need d H ≤ 8000 → G [toD n, fr l, fr t, fr h] = some (.list ((drw n l t h).map boxD)) ∧ (∀ b ∈ drw n l t h, BoxOk b)
theorem mem_map_len {d : Nat} : ∀ (n : Nest), Wf d n → True := fun _ _ => trivial
mutual
theorem drw_len : ∀ (d : Nat) (n : Nest), Wf d n → ∀ l t h, (drw n l t h).length = (leaves n).length
  | d, .leaf x, w, l, t, h => rfl
  | 0, .node _ _, w, _, _, _ => by unfold Wf at w; exact w.elim
  | d + 1, .node true ps, w, l, t, h => by
    unfold Wf at w
    rw [drw, leaves]
    exact drwA_len d ps w.2.2 l t h
  | d + 1, .node false ps, w, l, t, h => by
    unfold Wf at w
    rw [drw, leaves]
    exact drwB_len d ps w.2.2 l t _
theorem drwA_len : ∀ (d : Nat) (ps : List Nest), Wfs d ps → ∀ l t h, (drwA ps l t h).length = (leavesS ps).length
  | d, [], w, l, t, h => rfl
  | d, p :: ps, w, l, t, h => by
    unfold Wfs at w
    rw [drwA, leavesS, List.length_append, List.length_append, drw_len d p w.1, drwA_len d ps w.2]
theorem drwB_len : ∀ (d : Nat) (ps : List Nest), Wfs d ps → ∀ l t w, (drwB w ps l t).length = (leavesS ps).length
  | d, [], w, l, t, h => rfl
  | d, p :: ps, w, l, t, h => by
    unfold Wfs at w
    rw [drwB, leavesS, List.length_append, List.length_append, drw_len d p w.1, drwB_len d ps w.2]
end
end QP
set_option Elab.async false
set_option linter.all false
set_option maxRecDepth 100000
set_option maxHeartbeats 1000000
namespace QP
open PySem PySem.Spec PyProof.Rows L2 QL

def drawBody (F_drawn_in : List D → Option D) : MS := (sSeq (sAsg (eApp (F_proportion_of 4) (aCons (eVar 4) aNil)) (gSet 7)) (sIf (cV (eOp2 dEq (eOp2 dIx (eVar 0) (eC (.int 0))) (eC (.str "side")))) (sSeq (sDrop (eExtend 5 (eApp F_drawn_in (aCons (eVar 4) (aCons (eVar 1) (aCons (eVar 2) (aCons (eVar 3) aNil))))))) (sAsg (eApp F_plus (aCons (eVar 1) (aCons (eApp F_times (aCons (eVar 7) (aCons (eVar 3) aNil))) aNil))) (gSet 1))) (sSeq (sDrop (eExtend 5 (eApp F_drawn_in (aCons (eVar 4) (aCons (eVar 1) (aCons (eVar 2) (aCons (eApp F_over (aCons (eVar 6) (aCons (eVar 7) aNil))) aNil))))))) (sAsg (eApp F_plus (aCons (eVar 2) (aCons (eApp F_over (aCons (eVar 6) (aCons (eVar 7) aNil))) aNil))) (gSet 2)))))
theorem loopA {d : Nat} (hd : d ≤ 2) {G : List D → Option D} (hG : DrawOk d G) (qs : List D) (t h : Rat) (T H : Nat) (ht : Sz T t) (hh : Sz H h) (hT : T + need d H ≤ 8000) (wd : Sl) : ∀ (ps : List Nest), (∀ p ∈ ps, Wf d p) → ∀ (acc : List D) (l : Rat) (A : Nat) (s4 s7 : Sl), Sz A l → A + ps.length * (H + Bd d + 2) + need d H ≤ 8000 → acc.length + (drwA ps l t h).length ≤ 1000000 →
    ∃ l' s4' s7', QL.forM (gSet 4) (drawBody G) (toDs ps) [.dat (.tuple [.str (word true), .tuple qs]), .dat (fr l), .dat (fr t), .dat (fr h), s4, .own (.lst acc), wd, s7] = some (.nx, [.dat (.tuple [.str (word true), .tuple qs]), l', .dat (fr t), .dat (fr h), s4', .own (.lst (acc ++ (drwA ps l t h).map boxD)), wd, s7']) ∧ ∀ b ∈ drwA ps l t h, BoxOk b
  | [], _, acc, l, A, s4, s7, _, _, _ => ⟨.dat (fr l), s4, s7, by simp [toDs, QL.forM, drwA], by intro b hb; rw [drwA] at hb; cases hb⟩
  | p :: ps, hw, acc, l, A, s4, s7, hl, hb, hn => by
    have w := hw p List.mem_cons_self
    obtain ⟨f1, f2⟩ := F_worth_eq d 4 p (by omega) w (by omega)
    obtain ⟨g1, g2⟩ := hG p w l t h (max A T) H (hl.mono (by omega)) (ht.mono (by omega)) hh (by omega)
    have e0 : (p :: ps).length * (H + Bd d + 2) = ps.length * (H + Bd d + 2) + (H + Bd d + 2) := by rw [List.length_cons, Nat.succ_mul]
    have hBd : Bd d ≤ 77 := by
      have : d = 0 ∨ d = 1 ∨ d = 2 := by omega
      rcases this with rfl | rfl | rfl <;> decide
    have hnd := need_ge d H
    have m1 := F_times_eq f2 hh (by omega)
    have sz1 := f2.mul hh
    have m2 := F_plus_eq hl sz1 (by omega)
    have sz2 : Sz (A + (H + Bd d + 2)) (l + worth p * h) := (hl.add sz1).mono (by omega)
    rw [drwA, List.length_append] at hn
    obtain ⟨l', s4', s7', h2, b2⟩ := loopA hd hG qs t h T H ht hh hT wd ps (fun q hq => hw q (List.mem_cons_of_mem _ hq)) (acc ++ (drw p l t h).map boxD) (l + worth p * h) (A + (H + Bd d + 2)) (.dat (toD p)) (.dat (fr (worth p))) sz2 (by omega) (by simp; omega)
    refine ⟨l', s4', s7', ?_, fun b hb => ?_⟩
    · have hle : acc.length + ((drw p l t h).map boxD).length ≤ 1000000 := by simp; omega
      rw [toDs]
      unfold QL.forM
      rw [drawBody] at h2 ⊢
      simp only [sSeq, sIf, sNil, sAsg, sRet, sDrop, cV, cAnd, cOr, cNot, cTrue, eOp2, eOp1, eVar, eC, eApp, aCons, aNil, eIf, eAnd, eOr, eNot, eChain, eNeg, asB, dLt, dLe, dGt, dGe, dSub, dIx, dAbs, dMin, dMax, dLen, dList, dTuple, mkTup, mkLst, gSet, QL.gTup, gTupF, unTup, sPar2, xDat, xOwn, xNil, noScr, sOwn, oLst, iSeq, asSeq, iApp, endOf, List.map_cons, List.map_nil, List.length_cons, List.length_nil, List.length_set, List.replicate, List.cons_append, List.nil_append, List.getElem?_cons_zero, List.getElem?_cons_succ, List.getElem?_nil, Option.bind_some, Option.bind_none, Option.map_some, Option.map_none, List.set_cons_zero, List.set_cons_succ, List.set_nil, Bool.false_eq_true, if_false, if_true, ne_eq, not_false_eq_true, not_true_eq_false, and_self, and_true, true_and, Bool.not_true, Bool.not_false, Bool.and_true, Bool.true_and, Nat.reduceAdd, Nat.reduceSub, Nat.reduceLeDiff, Nat.reduceLT, Nat.reduceEqDiff, Nat.lt_irrefl, decide_true, decide_false, isa1, isa2, isa3, isa4, isa5, isa6, isa7, isa8, atI_0, atI_1, atI_2, atI_3, Option.getD_some, ownL, scrAt, f1, dEq_word, eExtend, g1, hle, m1, m2, h2, drwA, List.map_append, List.append_assoc]
    · rw [drwA] at hb
      rcases List.mem_append.mp hb with hb | hb
      · exact g2 b hb
      · exact b2 b hb
theorem loopB {d : Nat} (hd : d ≤ 2) {G : List D → Option D} (hG : DrawOk d G) (qs : List D) (l h w : Rat) (A Wb : Nat) (hl : Sz A l) (hw' : Sz Wb w) (hA : A + need d (Wb + Bd d) ≤ 8000) : ∀ (ps : List Nest), (∀ p ∈ ps, Wf d p) → ∀ (acc : List D) (t : Rat) (T : Nat) (s4 s7 : Sl), Sz T t → T + ps.length * (Wb + Bd d + 2) + need d (Wb + Bd d) ≤ 8000 → acc.length + (drwB w ps l t).length ≤ 1000000 →
    ∃ t' s4' s7', QL.forM (gSet 4) (drawBody G) (toDs ps) [.dat (.tuple [.str (word false), .tuple qs]), .dat (fr l), .dat (fr t), .dat (fr h), s4, .own (.lst acc), .dat (fr w), s7] = some (.nx, [.dat (.tuple [.str (word false), .tuple qs]), .dat (fr l), t', .dat (fr h), s4', .own (.lst (acc ++ (drwB w ps l t).map boxD)), .dat (fr w), s7']) ∧ ∀ b ∈ drwB w ps l t, BoxOk b
  | [], _, acc, t, T, s4, s7, _, _, _ => ⟨.dat (fr t), s4, s7, by simp [toDs, QL.forM, drwB], by intro b hb; rw [drwB] at hb; cases hb⟩
  | p :: ps, hw, acc, t, T, s4, s7, ht, hb, hn => by
    have wp := hw p List.mem_cons_self
    obtain ⟨f1, f2⟩ := F_worth_eq d 4 p (by omega) wp (by omega)
    have hp := pos_ne (worth_pos d p wp)
    have hBd : Bd d ≤ 77 := by
      have : d = 0 ∨ d = 1 ∨ d = 2 := by omega
      rcases this with rfl | rfl | rfl <;> decide
    have hnd := need_ge d (Wb + Bd d)
    have e0 : (p :: ps).length * (Wb + Bd d + 2) = ps.length * (Wb + Bd d + 2) + (Wb + Bd d + 2) := by rw [List.length_cons, Nat.succ_mul]
    have o1 := F_over_eq hw' f2 (by omega) hp
    have sz1 := hw'.div f2 hp
    obtain ⟨g1, g2⟩ := hG p wp l t (w / worth p) (max A T) (Wb + Bd d) (hl.mono (by omega)) (ht.mono (by omega)) sz1 (by omega)
    have m2 := F_plus_eq ht sz1 (by omega)
    have sz2 : Sz (T + (Wb + Bd d + 2)) (t + w / worth p) := (ht.add sz1).mono (by omega)
    rw [drwB, List.length_append] at hn
    obtain ⟨t', s4', s7', h2, b2⟩ := loopB hd hG qs l h w A Wb hl hw' hA ps (fun q hq => hw q (List.mem_cons_of_mem _ hq)) (acc ++ (drw p l t (w / worth p)).map boxD) (t + w / worth p) (T + (Wb + Bd d + 2)) (.dat (toD p)) (.dat (fr (worth p))) sz2 (by omega) (by simp; omega)
    refine ⟨t', s4', s7', ?_, fun b hb => ?_⟩
    · have hle : acc.length + ((drw p l t (w / worth p)).map boxD).length ≤ 1000000 := by simp; omega
      rw [toDs]
      unfold QL.forM
      rw [drawBody] at h2 ⊢
      simp only [sSeq, sIf, sNil, sAsg, sRet, sDrop, cV, cAnd, cOr, cNot, cTrue, eOp2, eOp1, eVar, eC, eApp, aCons, aNil, eIf, eAnd, eOr, eNot, eChain, eNeg, asB, dLt, dLe, dGt, dGe, dSub, dIx, dAbs, dMin, dMax, dLen, dList, dTuple, mkTup, mkLst, gSet, QL.gTup, gTupF, unTup, sPar2, xDat, xOwn, xNil, noScr, sOwn, oLst, iSeq, asSeq, iApp, endOf, List.map_cons, List.map_nil, List.length_cons, List.length_nil, List.length_set, List.replicate, List.cons_append, List.nil_append, List.getElem?_cons_zero, List.getElem?_cons_succ, List.getElem?_nil, Option.bind_some, Option.bind_none, Option.map_some, Option.map_none, List.set_cons_zero, List.set_cons_succ, List.set_nil, Bool.false_eq_true, if_false, if_true, ne_eq, not_false_eq_true, not_true_eq_false, and_self, and_true, true_and, Bool.not_true, Bool.not_false, Bool.and_true, Bool.true_and, Nat.reduceAdd, Nat.reduceSub, Nat.reduceLeDiff, Nat.reduceLT, Nat.reduceEqDiff, Nat.lt_irrefl, decide_true, decide_false, isa1, isa2, isa3, isa4, isa5, isa6, isa7, isa8, atI_0, atI_1, atI_2, atI_3, Option.getD_some, ownL, scrAt, f1, dEq_word, eExtend, o1, g1, hle, m2, h2, drwB, List.map_append, List.append_assoc]
    · rw [drwB] at hb
      rcases List.mem_append.mp hb with hb | hb
      · exact g2 b hb
      · exact b2 b hb
theorem draw_ok' : ∀ (d f : Nat), d < f → d ≤ 3 → DrawOk d (F_drawn_in f)
  | _, 0, h, _ => absurd h (Nat.not_lt_zero _)
  | d, f + 1, hf, hd => fun n w l t h A H hl ht hh hb => by
    cases n with
    | leaf x =>
      have hn := need_ge d H
      unfold Wf at w
      have m := F_times_eq w.2 hh (by omega)
      have sz := w.2.mul hh
      have hlf := leaf_true x
      refine ⟨?_, ?_⟩
      · show runF 4 8 (B_drawn_in (F_drawn_in f)) _ = _
        unfold runF B_drawn_in
        simp only [sSeq, sIf, sNil, sAsg, sRet, sDrop, cV, cAnd, cOr, cNot, cTrue, eOp2, eOp1, eVar, eC, eApp, aCons, aNil, eIf, eAnd, eOr, eNot, eChain, eNeg, asB, dLt, dLe, dGt, dGe, dSub, dIx, dAbs, dMin, dMax, dLen, dList, dTuple, mkTup, mkLst, gSet, QL.gTup, gTupF, unTup, sPar2, xDat, xOwn, xNil, noScr, sOwn, oLst, iSeq, asSeq, iApp, endOf, List.map_cons, List.map_nil, List.length_cons, List.length_nil, List.length_set, List.replicate, List.cons_append, List.nil_append, List.getElem?_cons_zero, List.getElem?_cons_succ, List.getElem?_nil, Option.bind_some, Option.bind_none, Option.map_some, Option.map_none, List.set_cons_zero, List.set_cons_succ, List.set_nil, Bool.false_eq_true, if_false, if_true, ne_eq, not_false_eq_true, not_true_eq_false, and_self, and_true, true_and, Bool.not_true, Bool.not_false, Bool.and_true, Bool.true_and, Nat.reduceAdd, Nat.reduceSub, Nat.reduceLeDiff, Nat.reduceLT, Nat.reduceEqDiff, Nat.lt_irrefl, decide_true, decide_false, isa1, isa2, isa3, isa4, isa5, isa6, isa7, isa8, atI_0, atI_1, atI_2, atI_3, Option.getD_some, ownL, scrAt, toD, hlf, m, drw, boxD]
      · intro b hb
        rw [drw] at hb
        have : b = (l, t, x * h, h) := by simpa using hb
        subst this
        exact ⟨hl.mono (by omega), ht.mono (by omega), sz.mono (by omega), hh.mono (by omega)⟩
    | node b ps =>
      cases d with
      | zero => unfold Wf at w; exact w.elim
      | succ d =>
        have w0 := w
        obtain ⟨f1, f2⟩ := F_worth_eq (d + 1) 4 _ (by omega) w0 (by omega)
        have hlen := leaves_len (d + 1) _ w0
        have hl27 : (leaves (.node b ps)).length ≤ 1000 := Nat.le_trans hlen (Nat.le_trans (Nat.pow_le_pow_right (by decide) (show d + 1 ≤ 3 by omega)) (by decide))
        have dl := drw_len (d + 1) _ w0 l t h
        unfold Wf at w
        obtain ⟨w1, w2, w3⟩ := w
        have hG := draw_ok' d f (by omega) (by omega)
        have hwp : ∀ p ∈ ps, Wf d p := fun p hp => Wfs_mem w3 p hp
        have hnl := leaf_node (word b) (toDs ps)
        have en : need (d + 1) H = 3 * (H + Bd (d + 1) + Bd d + 2) + need d (H + Bd (d + 1) + Bd d) := rfl
        have hnd := need_ge d (H + Bd (d + 1) + Bd d)
        have m := F_times_eq f2 hh (by omega)
        have sz := f2.mul hh
        cases b with
        | true =>
          have hm := need_mono d (h := H) (h' := H + Bd (d + 1) + Bd d) (by omega)
          have hmul : ps.length * (H + Bd d + 2) ≤ 3 * (H + Bd d + 2) := Nat.mul_le_mul_right _ w2
          rw [drw] at dl
          obtain ⟨l', s4', s7', h2, b2⟩ := loopA (by omega) hG (toDs ps) t h A H ht hh (by omega) (.dat (fr (worth (.node true ps) * h))) ps hwp [] l A .un .un hl (by omega) (by simp; omega)
          refine ⟨?_, by rw [drw]; exact b2⟩
          simp only [drawBody, List.nil_append] at h2
          simp only [toD] at f1
          show runF 4 8 (B_drawn_in (F_drawn_in f)) _ = _
          unfold runF B_drawn_in
          simp only [sSeq, sIf, sNil, sAsg, sRet, sDrop, cV, cAnd, cOr, cNot, cTrue, eOp2, eOp1, eVar, eC, eApp, aCons, aNil, eIf, eAnd, eOr, eNot, eChain, eNeg, asB, dLt, dLe, dGt, dGe, dSub, dIx, dAbs, dMin, dMax, dLen, dList, dTuple, mkTup, mkLst, gSet, QL.gTup, gTupF, unTup, sPar2, xDat, xOwn, xNil, noScr, sOwn, oLst, iSeq, asSeq, iApp, endOf, List.map_cons, List.map_nil, List.length_cons, List.length_nil, List.length_set, List.replicate, List.cons_append, List.nil_append, List.getElem?_cons_zero, List.getElem?_cons_succ, List.getElem?_nil, Option.bind_some, Option.bind_none, Option.map_some, Option.map_none, List.set_cons_zero, List.set_cons_succ, List.set_nil, Bool.false_eq_true, if_false, if_true, ne_eq, not_false_eq_true, not_true_eq_false, and_self, and_true, true_and, Bool.not_true, Bool.not_false, Bool.and_true, Bool.true_and, Nat.reduceAdd, Nat.reduceSub, Nat.reduceLeDiff, Nat.reduceLT, Nat.reduceEqDiff, Nat.lt_irrefl, decide_true, decide_false, isa1, isa2, isa3, isa4, isa5, isa6, isa7, isa8, atI_0, atI_1, atI_2, atI_3, Option.getD_some, ownL, scrAt, toD, hnl, f1, m, sFor, Nat.zero_le, h2, drw]
        | false =>
          have hmul : ps.length * (Bd (d + 1) + H + Bd d + 2) ≤ 3 * (Bd (d + 1) + H + Bd d + 2) := Nat.mul_le_mul_right _ w2
          rw [drw] at dl
          have eH : Bd (d + 1) + H + Bd d = H + Bd (d + 1) + Bd d := by omega
          obtain ⟨t', s4', s7', h2, b2⟩ := loopB (by omega) hG (toDs ps) l h (worth (.node false ps) * h) A (Bd (d + 1) + H) hl sz (by rw [eH]; omega) ps hwp [] t A .un .un ht (by rw [eH] at hmul ⊢; omega) (by simp; omega)
          refine ⟨?_, by rw [drw]; exact b2⟩
          simp only [drawBody, List.nil_append] at h2
          simp only [toD] at f1
          show runF 4 8 (B_drawn_in (F_drawn_in f)) _ = _
          unfold runF B_drawn_in
          simp only [sSeq, sIf, sNil, sAsg, sRet, sDrop, cV, cAnd, cOr, cNot, cTrue, eOp2, eOp1, eVar, eC, eApp, aCons, aNil, eIf, eAnd, eOr, eNot, eChain, eNeg, asB, dLt, dLe, dGt, dGe, dSub, dIx, dAbs, dMin, dMax, dLen, dList, dTuple, mkTup, mkLst, gSet, QL.gTup, gTupF, unTup, sPar2, xDat, xOwn, xNil, noScr, sOwn, oLst, iSeq, asSeq, iApp, endOf, List.map_cons, List.map_nil, List.length_cons, List.length_nil, List.length_set, List.replicate, List.cons_append, List.nil_append, List.getElem?_cons_zero, List.getElem?_cons_succ, List.getElem?_nil, Option.bind_some, Option.bind_none, Option.map_some, Option.map_none, List.set_cons_zero, List.set_cons_succ, List.set_nil, Bool.false_eq_true, if_false, if_true, ne_eq, not_false_eq_true, not_true_eq_false, and_self, and_true, true_and, Bool.not_true, Bool.not_false, Bool.and_true, Bool.true_and, Nat.reduceAdd, Nat.reduceSub, Nat.reduceLeDiff, Nat.reduceLT, Nat.reduceEqDiff, Nat.lt_irrefl, decide_true, decide_false, isa1, isa2, isa3, isa4, isa5, isa6, isa7, isa8, atI_0, atI_1, atI_2, atI_3, Option.getD_some, ownL, scrAt, toD, hnl, f1, m, sFor, Nat.zero_le, h2, drw]
theorem F_drawn_eq (n : Nest) (w : Wf 3 n) (h8 : (leaves n).length ≤ 8) : F_drawn [toD n] = some (.list ((drw n 0 0 1).map boxD)) ∧ ∀ b ∈ drw n 0 0 1, BoxOk b := by
  have hn := F_need_eq n w h8
  obtain ⟨h1, h2⟩ := draw_ok' 3 4 (by decide) (by decide) n w 0 0 1 1 1 Sz_zero Sz_zero Sz_one (by decide)
  refine ⟨?_, h2⟩
  rw [fr_zero, fr_one] at h1
  unfold F_drawn runF B_drawn
  simp only [sSeq, sIf, sNil, sAsg, sRet, sDrop, cV, cAnd, cOr, cNot, cTrue, eOp2, eOp1, eVar, eC, eApp, aCons, aNil, eIf, eAnd, eOr, eNot, eChain, eNeg, asB, dLt, dLe, dGt, dGe, dSub, dIx, dAbs, dMin, dMax, dLen, dList, dTuple, mkTup, mkLst, gSet, QL.gTup, gTupF, unTup, sPar2, xDat, xOwn, xNil, noScr, sOwn, oLst, iSeq, asSeq, iApp, endOf, List.map_cons, List.map_nil, List.length_cons, List.length_nil, List.length_set, List.replicate, List.cons_append, List.nil_append, List.getElem?_cons_zero, List.getElem?_cons_succ, List.getElem?_nil, Option.bind_some, Option.bind_none, Option.map_some, Option.map_none, List.set_cons_zero, List.set_cons_succ, List.set_nil, Bool.false_eq_true, if_false, if_true, ne_eq, not_false_eq_true, not_true_eq_false, and_self, and_true, true_and, Bool.not_true, Bool.not_false, Bool.and_true, Bool.true_and, Nat.reduceAdd, Nat.reduceSub, Nat.reduceLeDiff, Nat.reduceLT, Nat.reduceEqDiff, Nat.lt_irrefl, decide_true, decide_false, isa1, isa2, isa3, isa4, isa5, isa6, isa7, isa8, atI_0, atI_1, atI_2, atI_3, Option.getD_some, ownL, scrAt, hn, h1]
theorem F_quarter_eq (n : Nest) (w : Wf 3 n) (h8 : (leaves n).length ≤ 8) : F_quarter [toD n] = some (toD (qt n)) := by
  have hn := F_need_eq n w h8
  have h1 := F_quarter_of_eq 3 4 n (by decide) w (by decide)
  unfold F_quarter runF B_quarter
  simp only [sSeq, sIf, sNil, sAsg, sRet, sDrop, cV, cAnd, cOr, cNot, cTrue, eOp2, eOp1, eVar, eC, eApp, aCons, aNil, eIf, eAnd, eOr, eNot, eChain, eNeg, asB, dLt, dLe, dGt, dGe, dSub, dIx, dAbs, dMin, dMax, dLen, dList, dTuple, mkTup, mkLst, gSet, QL.gTup, gTupF, unTup, sPar2, xDat, xOwn, xNil, noScr, sOwn, oLst, iSeq, asSeq, iApp, endOf, List.map_cons, List.map_nil, List.length_cons, List.length_nil, List.length_set, List.replicate, List.cons_append, List.nil_append, List.getElem?_cons_zero, List.getElem?_cons_succ, List.getElem?_nil, Option.bind_some, Option.bind_none, Option.map_some, Option.map_none, List.set_cons_zero, List.set_cons_succ, List.set_nil, Bool.false_eq_true, if_false, if_true, ne_eq, not_false_eq_true, not_true_eq_false, and_self, and_true, true_and, Bool.not_true, Bool.not_false, Bool.and_true, Bool.true_and, Nat.reduceAdd, Nat.reduceSub, Nat.reduceLeDiff, Nat.reduceLT, Nat.reduceEqDiff, Nat.lt_irrefl, decide_true, decide_false, isa1, isa2, isa3, isa4, isa5, isa6, isa7, isa8, atI_0, atI_1, atI_2, atI_3, Option.getD_some, ownL, scrAt, hn, h1]
theorem F_nestprop_eq (n : Nest) (w : Wf 3 n) (h8 : (leaves n).length ≤ 8) : F_nest_proportion [toD n] = some (fr (worth n)) := by
  have hn := F_need_eq n w h8
  have h1 := (F_worth_eq 3 4 n (by decide) w (by decide)).1
  unfold F_nest_proportion runF B_nest_proportion
  simp only [sSeq, sIf, sNil, sAsg, sRet, sDrop, cV, cAnd, cOr, cNot, cTrue, eOp2, eOp1, eVar, eC, eApp, aCons, aNil, eIf, eAnd, eOr, eNot, eChain, eNeg, asB, dLt, dLe, dGt, dGe, dSub, dIx, dAbs, dMin, dMax, dLen, dList, dTuple, mkTup, mkLst, gSet, QL.gTup, gTupF, unTup, sPar2, xDat, xOwn, xNil, noScr, sOwn, oLst, iSeq, asSeq, iApp, endOf, List.map_cons, List.map_nil, List.length_cons, List.length_nil, List.length_set, List.replicate, List.cons_append, List.nil_append, List.getElem?_cons_zero, List.getElem?_cons_succ, List.getElem?_nil, Option.bind_some, Option.bind_none, Option.map_some, Option.map_none, List.set_cons_zero, List.set_cons_succ, List.set_nil, Bool.false_eq_true, if_false, if_true, ne_eq, not_false_eq_true, not_true_eq_false, and_self, and_true, true_and, Bool.not_true, Bool.not_false, Bool.and_true, Bool.true_and, Nat.reduceAdd, Nat.reduceSub, Nat.reduceLeDiff, Nat.reduceLT, Nat.reduceEqDiff, Nat.lt_irrefl, decide_true, decide_false, isa1, isa2, isa3, isa4, isa5, isa6, isa7, isa8, atI_0, atI_1, atI_2, atI_3, Option.getD_some, ownL, scrAt, hn, h1]

/-! ### data that is compared -/
theorem shaped_of {d : D} (h1 : d.canLay0 = true) (h2 : d.depth ≤ 64) : SeqAt.shaped d = true := by
  unfold SeqAt.shaped
  rw [Bool.and_eq_true]
  exact ⟨h1, decide_eq_true h2⟩
theorem dNe_same {d : D} (h : SeqAt.shaped d = true) : dNe d d = some (.bool false) := by
  unfold dNe
  rw [if_pos ⟨h, h⟩, SeqAt.eqv_refl]
  · rfl
  all_goals first | exact SeqAt.canLay_of_shaped h | skip
theorem nest_shape : ∀ (d : Nat) (n : Nest), Wf d n → (toD n).canLay0 = true ∧ (toD n).depth ≤ 2 * d + 1
  | d, .leaf x, w => ⟨rfl, by show 1 ≤ _; omega⟩
  | 0, .node _ _, w => by unfold Wf at w; exact w.elim
  | d + 1, .node b ps, w => by
    unfold Wf at w
    have key : ∀ qs : List Nest, (∀ q ∈ qs, (toD q).canLay0 = true ∧ (toD q).depth ≤ 2 * d + 1) → PyData.canLayAll0 (toDs qs) = true ∧ PyData.depthAll (toDs qs) ≤ 2 * d + 1 := fun qs => by
      induction qs with
      | nil => intro _; exact ⟨rfl, Nat.zero_le _⟩
      | cons q qs ih =>
        intro h
        obtain ⟨a, b⟩ := h q List.mem_cons_self
        obtain ⟨c, e⟩ := ih fun z hz => h z (List.mem_cons_of_mem _ hz)
        rw [toDs]
        refine ⟨by unfold PyData.canLayAll0; rw [a, c]; rfl, by unfold PyData.depthAll; omega⟩
    obtain ⟨k1, k2⟩ := key ps fun q hq => nest_shape d q (Wfs_mem w.2.2 q hq)
    rw [toD]
    have hw : (PyData.str (word b)).canLay0 = true := by cases b <;> decide +kernel
    refine ⟨?_, ?_⟩
    · show ((PyData.str (word b)).canLay0 && (PyData.canLayAll0 (toDs ps) && true)) = true
      rw [hw, k1]
      rfl
    · show max 0 (max (PyData.depthAll (toDs ps) + 1) 0) + 1 ≤ _
      omega
theorem nest_same {n : Nest} (w : Wf 3 n) : dNe (toD n) (toD n) = some (.bool false) := by
  obtain ⟨a, b⟩ := nest_shape 3 n w
  exact dNe_same (shaped_of a (by omega))
end QP
set_option Elab.async false
set_option linter.all false
set_option maxRecDepth 100000
set_option maxHeartbeats 1000000
namespace QP
open PySem PySem.Spec PyProof.Rows L2 QL

def lawBody : MS := (sSeq (sAsg (eLc [9] (iSeq (eApp mkTup (aCons (eOp2 dIx (eVar 6) (eC (.int 1))) (aCons (eOp2 dIx (eVar 6) (eC (.int 0))) (aCons (eOp2 dIx (eVar 6) (eC (.int 3))) (aCons (eOp2 dIx (eVar 6) (eC (.int 2))) aNil)))))) (gSet 9) cTrue (eApp F__law_by (aCons (eVar 9) (aCons (eApp mkTup (aCons (eVar 5) (aCons (eVar 4) aNil))) aNil)))) (gSet 8)) (sIf (cV (eOp2 dNe (eApp dList (aCons (eVar 7) aNil)) (eVar 8))) (sRet (eC (.bool false))) sNil))
theorem zipL_map {α : Type} (f g : α → D) : ∀ xs : List α, zipL (xs.map f) (xs.map g) = xs.map fun x => .tuple [f x, g x]
  | [] => rfl
  | x :: xs => by
    have := zipL_map f g xs
    unfold zipL at this ⊢
    simp only [List.map_cons, List.zip_cons_cons, this]
theorem law_turn (S : List Sl) (c : Rat) (b : Box) (hb : BoxOk b) (hc : Sz 239 c) (s0 s1 s2 s3 s6 s7 s8 : Sl) (p q : Int) (e : fr c = .tuple [.int q, .int p]) :
    lawBody [s0, s1, s2, s3, .dat (.int p), .dat (.int q), .dat (boxD b), .dat (boxD (turn c b)), s8, .un] = some (.nx, [s0, s1, s2, s3, .dat (.int p), .dat (.int q), .dat (boxD b), .dat (boxD (turn c b)), .dat (.list [fr (b.2.1 * c), fr (b.1 * c), fr (b.2.2.2 * c), fr (b.2.2.1 * c)]), .un]) := by
  obtain ⟨b1, b2, b3, b4⟩ := hb
  have m1 := F__law_by_eq b1 hc (by decide)
  have m2 := F__law_by_eq b2 hc (by decide)
  have m3 := F__law_by_eq b3 hc (by decide)
  have m4 := F__law_by_eq b4 hc (by decide)
  rw [e] at m1 m2 m3 m4
  have hs : SeqAt.shaped (.list [fr (b.2.1 * c), fr (b.1 * c), fr (b.2.2.2 * c), fr (b.2.2.1 * c)]) = true := rfl
  have hn := dNe_same hs
  have key := eLc_pure (i := 9) (ρ := [s0, s1, s2, s3, .dat (.int p), .dat (.int q), .dat (boxD b), .dat (boxD (turn c b)), s8, .un]) (it := iSeq (eApp mkTup (aCons (eOp2 dIx (eVar 6) (eC (.int 1))) (aCons (eOp2 dIx (eVar 6) (eC (.int 0))) (aCons (eOp2 dIx (eVar 6) (eC (.int 3))) (aCons (eOp2 dIx (eVar 6) (eC (.int 2))) aNil)))))) (m := eApp F__law_by (aCons (eVar 9) (aCons (eApp mkTup (aCons (eVar 5) (aCons (eVar 4) aNil))) aNil))) (g := fr) (h := fun x => fr (x * c)) [b.2.1, b.1, b.2.2.2, b.2.2.1]
    (by unfold boxD; simp only [sSeq, sIf, sNil, sAsg, sRet, sDrop, cV, cAnd, cOr, cNot, cTrue, eOp2, eOp1, eVar, eC, eApp, aCons, aNil, eIf, eAnd, eOr, eNot, eChain, eNeg, asB, dLt, dLe, dGt, dGe, dSub, dIx, dAbs, dMin, dMax, dLen, dList, dTuple, mkTup, mkLst, gSet, QL.gTup, gTupF, unTup, sPar2, xDat, xOwn, xNil, noScr, sOwn, oLst, iSeq, asSeq, iApp, endOf, List.map_cons, List.map_nil, List.length_cons, List.length_nil, List.length_set, List.replicate, List.cons_append, List.nil_append, List.getElem?_cons_zero, List.getElem?_cons_succ, List.getElem?_nil, Option.bind_some, Option.bind_none, Option.map_some, Option.map_none, List.set_cons_zero, List.set_cons_succ, List.set_nil, Bool.false_eq_true, if_false, if_true, ne_eq, not_false_eq_true, not_true_eq_false, and_self, and_true, true_and, Bool.not_true, Bool.not_false, Bool.and_true, Bool.true_and, Nat.reduceAdd, Nat.reduceSub, Nat.reduceLeDiff, Nat.reduceLT, Nat.reduceEqDiff, Nat.lt_irrefl, decide_true, decide_false, isa1, isa2, isa3, isa4, isa5, isa6, isa7, isa8, atI_0, atI_1, atI_2, atI_3, Option.getD_some, ownL, scrAt]) (.inl rfl) (by simp only [List.length_cons, List.length_nil]; decide) (fun x hx => by
      have : F__law_by [fr x, .tuple [.int q, .int p]] = some (fr (x * c)) := by
        simp only [List.mem_cons, List.not_mem_nil, or_false] at hx
        rcases hx with rfl | rfl | rfl | rfl <;> assumption
      simp only [sSeq, sIf, sNil, sAsg, sRet, sDrop, cV, cAnd, cOr, cNot, cTrue, eOp2, eOp1, eVar, eC, eApp, aCons, aNil, eIf, eAnd, eOr, eNot, eChain, eNeg, asB, dLt, dLe, dGt, dGe, dSub, dIx, dAbs, dMin, dMax, dLen, dList, dTuple, mkTup, mkLst, gSet, QL.gTup, gTupF, unTup, sPar2, xDat, xOwn, xNil, noScr, sOwn, oLst, iSeq, asSeq, iApp, endOf, List.map_cons, List.map_nil, List.length_cons, List.length_nil, List.length_set, List.replicate, List.cons_append, List.nil_append, List.getElem?_cons_zero, List.getElem?_cons_succ, List.getElem?_nil, Option.bind_some, Option.bind_none, Option.map_some, Option.map_none, List.set_cons_zero, List.set_cons_succ, List.set_nil, Bool.false_eq_true, if_false, if_true, ne_eq, not_false_eq_true, not_true_eq_false, and_self, and_true, true_and, Bool.not_true, Bool.not_false, Bool.and_true, Bool.true_and, Nat.reduceAdd, Nat.reduceSub, Nat.reduceLeDiff, Nat.reduceLT, Nat.reduceEqDiff, Nat.lt_irrefl, decide_true, decide_false, isa1, isa2, isa3, isa4, isa5, isa6, isa7, isa8, atI_0, atI_1, atI_2, atI_3, Option.getD_some, ownL, scrAt, this])
  have ed : dList [boxD (turn c b)] = some (.list [fr (b.2.1 * c), fr (b.1 * c), fr (b.2.2.2 * c), fr (b.2.2.1 * c)]) := rfl
  unfold lawBody
  simp only [sSeq, sAsg, key, Option.bind_some]
  simp only [sIf, cV, eOp2, eApp, aCons, aNil, eVar, gSet, Option.map_some, Option.bind_some, List.set_cons_succ, List.set_cons_zero, List.getElem?_cons_succ, List.getElem?_cons_zero, ed, List.map_cons, List.map_nil, hn, asB, sNil, Bool.false_eq_true, if_false]
theorem law_loop (c : Rat) (hc : Sz 239 c) (p q : Int) (e : fr c = .tuple [.int q, .int p]) (s0 s1 s2 s3 : Sl) : ∀ (bs : List Box) (s6 s7 s8 : Sl), (∀ b ∈ bs, BoxOk b) →
    ∃ s6' s7' s8', QL.forM (QL.gTup [(gSet 6), (gSet 7)]) lawBody (bs.map fun b => .tuple [boxD b, boxD (turn c b)]) [s0, s1, s2, s3, .dat (.int p), .dat (.int q), s6, s7, s8, .un] = some (.nx, [s0, s1, s2, s3, .dat (.int p), .dat (.int q), s6', s7', s8', .un])
  | [], s6, s7, s8, _ => ⟨s6, s7, s8, rfl⟩
  | b :: bs, s6, s7, s8, h => by
    obtain ⟨s6', s7', s8', h2⟩ := law_loop c hc p q e s0 s1 s2 s3 bs (.dat (boxD b)) (.dat (boxD (turn c b))) (.dat (.list [fr (b.2.1 * c), fr (b.1 * c), fr (b.2.2.2 * c), fr (b.2.2.1 * c)])) fun z hz => h z (List.mem_cons_of_mem _ hz)
    have h1 := law_turn [] c b (h b List.mem_cons_self) hc s0 s1 s2 s3 s6 s7 s8 p q e
    refine ⟨s6', s7', s8', ?_⟩
    rw [List.map_cons]
    unfold QL.forM
    simp only [sSeq, sIf, sNil, sAsg, sRet, sDrop, cV, cAnd, cOr, cNot, cTrue, eOp2, eOp1, eVar, eC, eApp, aCons, aNil, eIf, eAnd, eOr, eNot, eChain, eNeg, asB, dLt, dLe, dGt, dGe, dSub, dIx, dAbs, dMin, dMax, dLen, dList, dTuple, mkTup, mkLst, gSet, QL.gTup, gTupF, unTup, sPar2, xDat, xOwn, xNil, noScr, sOwn, oLst, iSeq, asSeq, iApp, endOf, List.map_cons, List.map_nil, List.length_cons, List.length_nil, List.length_set, List.replicate, List.cons_append, List.nil_append, List.getElem?_cons_zero, List.getElem?_cons_succ, List.getElem?_nil, Option.bind_some, Option.bind_none, Option.map_some, Option.map_none, List.set_cons_zero, List.set_cons_succ, List.set_nil, Bool.false_eq_true, if_false, if_true, ne_eq, not_false_eq_true, not_true_eq_false, and_self, and_true, true_and, Bool.not_true, Bool.not_false, Bool.and_true, Bool.true_and, Nat.reduceAdd, Nat.reduceSub, Nat.reduceLeDiff, Nat.reduceLT, Nat.reduceEqDiff, Nat.lt_irrefl, decide_true, decide_false, isa1, isa2, isa3, isa4, isa5, isa6, isa7, isa8, atI_0, atI_1, atI_2, atI_3, Option.getD_some, ownL, scrAt, h1, h2]
theorem law_true (ns : List Int) (h63 : ns.length ≤ 63) : ∃ ss, F_law [.scr ns] = some (.bool true, ss) := by
  obtain ⟨n, ts, h1, w, h8, _, _⟩ := good_ok ns h63 [] (by decide)
  have wq := Wf_qt 3 n w
  have h8q : (leaves (qt n)).length ≤ 8 := by rw [leaves_qt 3 n w]; exact h8
  have q1 := F_quarter_eq n w h8
  have q2 := F__law_quarter_eq 3 4 n (by decide) w (by decide)
  have q3 := F_isnest_eq (qt n) wq h8q
  have q4 := F_quarter_eq (qt n) wq h8q
  rw [qt_qt 3 n w] at q4
  have n1 := nest_same wq
  have n2 := nest_same w
  have p1 := F_nestprop_eq n w h8
  have p2 := F_nestprop_eq (qt n) wq h8q
  have wp := worth_pos 3 n w
  rw [worth_qt 3 n w, fr_inv wp] at p2
  have sw : Sz 239 (worth n) := (F_worth_eq 3 4 n (by decide) w (by decide)).2
  have sc : Sz 239 (1 / worth n) := Sz_inv wp sw
  obtain ⟨d1, b1⟩ := F_drawn_eq n w h8
  obtain ⟨d2, _⟩ := F_drawn_eq (qt n) wq h8q
  have et := drw_turn 3 n w 0 0 1 (1 / worth n)
  have e1 : (0 : Rat) * (1 / worth n) = 0 := by grind
  have e2 : worth n * 1 * (1 / worth n) = 1 := by
    have := pos_ne wp
    grind
  rw [e1, e2] at et
  rw [et, List.map_map] at d2
  have ez := zipL_map boxD (fun b => boxD (turn (1 / worth n) b)) (drw n 0 0 1)
  have d2' : F_drawn [toD (qt n)] = some (.list ((drw n 0 0 1).map fun b => boxD (turn (1 / worth n) b))) := d2
  have i1 : dIsNot (.bool true) (.bool true) = some (.bool false) := rfl
  have np : dNe (.tuple [.int (worth n).den, .int (worth n).num]) (.tuple [.int (worth n).den, .int (worth n).num]) = some (.bool false) := dNe_same rfl
  obtain ⟨s6', s7', s8', h2⟩ := law_loop (1 / worth n) sc (worth n).num (worth n).den (fr_inv wp) (.scr ns) (.own (.lst ts)) (.dat (toD n)) (.dat (toD (qt n))) (drw n 0 0 1) .un .un .un b1
  refine ⟨[.scr ns], ?_⟩
  unfold lawBody at h2
  rw [show fr (worth n) = .tuple [.int (worth n).num, .int (worth n).den] from rfl] at p1
  unfold F_law runO B_law
  simp only [sSeq, sIf, sNil, sAsg, sRet, sDrop, cV, cAnd, cOr, cNot, cTrue, eOp2, eOp1, eVar, eC, eApp, aCons, aNil, eIf, eAnd, eOr, eNot, eChain, eNeg, asB, dLt, dLe, dGt, dGe, dSub, dIx, dAbs, dMin, dMax, dLen, dList, dTuple, mkTup, mkLst, gSet, QL.gTup, gTupF, unTup, sPar2, xDat, xOwn, xNil, noScr, sOwn, oLst, iSeq, asSeq, iApp, endOf, List.map_cons, List.map_nil, List.length_cons, List.length_nil, List.length_set, List.replicate, List.cons_append, List.nil_append, List.getElem?_cons_zero, List.getElem?_cons_succ, List.getElem?_nil, Option.bind_some, Option.bind_none, Option.map_some, Option.map_none, List.set_cons_zero, List.set_cons_succ, List.set_nil, Bool.false_eq_true, if_false, if_true, ne_eq, not_false_eq_true, not_true_eq_false, and_self, and_true, true_and, Bool.not_true, Bool.not_false, Bool.and_true, Bool.true_and, Nat.reduceAdd, Nat.reduceSub, Nat.reduceLeDiff, Nat.reduceLT, Nat.reduceEqDiff, Nat.lt_irrefl, decide_true, decide_false, isa1, isa2, isa3, isa4, isa5, isa6, isa7, isa8, atI_0, atI_1, atI_2, atI_3, Option.getD_some, ownL, scrAt, ownsIn, Nat.zero_le, eAppO, yVar, yDat, yNil, isRef, ownIx, List.nodup_cons, List.not_mem_nil, List.nodup_nil, toSl, clr, put, h1, q1, q2, n1, q3, i1, q4, n2, p1, p2, np, sFor, zipD, d1, d2', ez, h2, endO, backO, pick, Nat.le_refl]
end QP
set_option Elab.async false
set_option linter.all false
set_option maxRecDepth 100000
set_option maxHeartbeats 4000000
namespace QP
open PySem PySem.Spec PyProof.Rows L2 QL

theorem def_mk {K : QL.Fr} {h : Heap} {mg : Str → Option Value} {x : Str} {st : Stmt} {ps : List Str} {f : Addr} {od an : Option Addr} {sl : Array (Option Value)} {oc kV dc pm cd ct : Value} (X : K.In h) (G : h.Ns mainGlobals mg)
    (a : PySem.W.nsIn K mainGlobals x = some (some (.ref f))) (l : K.lookup f = some ⟨oc, od, .func (PySem.W.fnOf x x (defArgs st) (defBody st) (defScope st) .none kV dc pm an cd ct), sl⟩) (c : PySem.W.codeIn K cd x = true) (k : PySem.W.keepIn K (.ref f) = true)
    (hb : ∀ (kV doc pm : Value) (an : Option Addr) (cdv ct : Value) (us : List Value), us.length = ps.length → bindArgs (PySem.W.fnOf x x (defArgs st) (defBody st) (defScope st) .none kV doc pm an cdv ct) ⟨us, []⟩ = pure (ps.zip us)) : Def K mg x st ps :=
  ⟨f, _, fun_mk (st := st) l c k, PySem.W.mg_of X G a, (fun_mk (st := st) l c k).binds hb⟩
theorem glob_int {K : QL.Fr} {h : Heap} {mg : Str → Option Value} {x : Str} {i : Int} {t : Tok} (X : K.In h) (G : h.Ns mainGlobals mg) (a : PySem.W.nsIn K mainGlobals x = some (some (.int i t))) : GlobD K mg x (.int i) := ⟨.int i, _, PySem.W.mg_of X G a, ⟨t, rfl⟩, fun _ => .int i⟩
theorem glob_str {K : QL.Fr} {h : Heap} {mg : Str → Option Value} {x : Str} {i : Str} {t : Tok} (X : K.In h) (G : h.Ns mainGlobals mg) (a : PySem.W.nsIn K mainGlobals x = some (some (.str i t))) : GlobD K mg x (.str i) := ⟨.str i, _, PySem.W.mg_of X G a, ⟨t, rfl⟩, fun _ => .str i⟩
theorem glob_ii {K : QL.Fr} {h : Heap} {mg : Str → Option Value} {x : Str} {p : Addr} {i j : Int} {t u : Tok} {dd : Option Addr} {n : Nat} {sl : Array (Option Value)} (X : K.In h) (G : h.Ns mainGlobals mg) (a : PySem.W.nsIn K mainGlobals x = some (some (.ref p))) (l : K.lookup p = some ⟨.type "tuple", dd, .seq #[.int i t, .int j u] n, sl⟩) : GlobD K mg x (.tuple [.int i, .int j]) :=
  ⟨.ref p, _, PySem.W.mg_of X G a, rfl, fun _ => .tup (xs := [.int i, .int j]) (.inr ⟨_, _, _, l, rfl, rfl, (show 2 ≤ sizeLine by decide), .cons ⟨t, rfl⟩ (.cons ⟨u, rfl⟩ .nil)⟩) (.cons (.int i) (.cons (.int j) .nil))⟩
theorem glob_ss {K : QL.Fr} {h : Heap} {mg : Str → Option Value} {x : Str} {p : Addr} {i j : Str} {t u : Tok} {dd : Option Addr} {n : Nat} {sl : Array (Option Value)} (X : K.In h) (G : h.Ns mainGlobals mg) (a : PySem.W.nsIn K mainGlobals x = some (some (.ref p))) (l : K.lookup p = some ⟨.type "tuple", dd, .seq #[.str i t, .str j u] n, sl⟩) : GlobD K mg x (.tuple [.str i, .str j]) :=
  ⟨.ref p, _, PySem.W.mg_of X G a, rfl, fun _ => .tup (xs := [.str i, .str j]) (.inr ⟨_, _, _, l, rfl, rfl, (show 2 ≤ sizeLine by decide), .cons ⟨t, rfl⟩ (.cons ⟨u, rfl⟩ .nil)⟩) (.cons (.str i) (.cons (.str j) .nil))⟩
theorem all_ok {P : Program} {w : World} {K : QL.Fr} {mg : Str → Option Value} {base : Heap} (T : Txt K mg) (X_is_any_whole : Def K mg "is_any_whole" s_is_any_whole ["thing"]) (X_common : Def K mg "common" s_common ["one", "other"]) (X_made_of : Def K mg "made_of" s_made_of ["top", "bottom"]) (X_is_fraction : Def K mg "is_fraction" s_is_fraction ["thing"]) (X_plus : Def K mg "plus" s_plus ["one", "other"]) (X_times : Def K mg "times" s_times ["one", "other"]) (X_over : Def K mg "over" s_over ["one", "other"]) (X_total : Def K mg "total" s_total ["some"]) (X_is_proportion : Def K mg "is_proportion" s_is_proportion ["thing"]) (X_proportions_in : Def K mg "proportions_in" s_proportions_in ["thing", "left"]) (X_good_nest : Def K mg "good_nest" s_good_nest ["thing"]) (X_is_nest : Def K mg "is_nest" s_is_nest ["thing"]) (X_need_nest : Def K mg "need_nest" s_need_nest ["nest"]) (X_is_leaf : Def K mg "is_leaf" s_is_leaf ["nest"]) (X_proportion_of : Def K mg "proportion_of" s_proportion_of ["nest"]) (X_nest_proportion : Def K mg "nest_proportion" s_nest_proportion ["nest"]) (X_drawn_in : Def K mg "drawn_in" s_drawn_in ["nest", "left", "top", "height"]) (X_drawn : Def K mg "drawn" s_drawn ["nest"]) (X_quarter_of : Def K mg "quarter_of" s_quarter_of ["nest"]) (X_quarter : Def K mg "quarter" s_quarter ["nest"]) (X__law_both : Def K mg "_law_both" s__law_both ["one", "other"]) (X__law_part : Def K mg "_law_part" s__law_part ["top", "bottom"]) (X__law_by : Def K mg "_law_by" s__law_by ["one", "other"]) (X__law_cell_at : Def K mg "_law_cell_at" s__law_cell_at ["script", "k"]) (X__law_mixed : Def K mg "_law_mixed" s__law_mixed ["script", "k", "bound"]) (X__law_draw : Def K mg "_law_draw" s__law_draw ["script", "town", "bound"]) (X__law_pick : Def K mg "_law_pick" s__law_pick ["script", "town", "some"]) (X__law_some_proportion : Def K mg "_law_some_proportion" s__law_some_proportion ["script", "town"]) (X__law_some_nest : Def K mg "_law_some_nest" s__law_some_nest ["script", "town", "left"]) (X__law_leaves : Def K mg "_law_leaves" s__law_leaves ["nest"]) (X__law_inner_beams : Def K mg "_law_inner_beams" s__law_inner_beams ["nest"]) (X__law_good_nest : Def K mg "_law_good_nest" s__law_good_nest ["script", "town"]) (X__law_quarter : Def K mg "_law_quarter" s__law_quarter ["nest"]) {ff : Addr} {fd : FuncData} (FF : Fun K "law" "law" s_law ff fd) : FnOk P w K mg base CX0 14 ff fd ["script"] (spO K F_law 1) := by
  have h_is_any_whole := ok_is_any_whole (P := P) (w := w) (base := base) T X_is_any_whole
  have h_common := ok_common (P := P) (w := w) (base := base) T X_common
  have h_made_of := ok_made_of (P := P) (w := w) (base := base) T X_made_of h_common
  have h_is_fraction := ok_is_fraction (P := P) (w := w) (base := base) T X_is_fraction h_common h_is_any_whole
  have h_plus := ok_plus (P := P) (w := w) (base := base) T X_plus h_made_of
  have h_times := ok_times (P := P) (w := w) (base := base) T X_times h_made_of
  have h_over := ok_over (P := P) (w := w) (base := base) T X_over h_made_of
  have h_total := ok_total (P := P) (w := w) (base := base) T X_total h_plus
  have h_is_proportion := ok_is_proportion (P := P) (w := w) (base := base) T X_is_proportion h_is_fraction
  have h_proportions_in := fun n => ok_proportions_in (P := P) (w := w) (base := base) T X_proportions_in h_is_proportion n
  have h_good_nest := ok_good_nest (P := P) (w := w) (base := base) T X_good_nest (h_proportions_in 4)
  have h_is_nest := ok_is_nest (P := P) (w := w) (base := base) T X_is_nest h_good_nest
  have h_need_nest := ok_need_nest (P := P) (w := w) (base := base) T X_need_nest h_good_nest
  have h_is_leaf := ok_is_leaf (P := P) (w := w) (base := base) T X_is_leaf
  have h_proportion_of := fun n => ok_proportion_of (P := P) (w := w) (base := base) T X_proportion_of h_is_leaf h_over h_total n
  have h_nest_proportion := ok_nest_proportion (P := P) (w := w) (base := base) T X_nest_proportion h_need_nest (h_proportion_of 4)
  have h_drawn_in := fun n => ok_drawn_in (P := P) (w := w) (base := base) T X_drawn_in h_is_leaf h_over h_plus (h_proportion_of 4) h_times n
  have h_drawn := ok_drawn (P := P) (w := w) (base := base) T X_drawn (h_drawn_in 4) h_need_nest
  have h_quarter_of := fun n => ok_quarter_of (P := P) (w := w) (base := base) T X_quarter_of h_is_leaf h_over n
  have h_quarter := ok_quarter (P := P) (w := w) (base := base) T X_quarter h_need_nest (h_quarter_of 4)
  have h__law_both := ok__law_both (P := P) (w := w) (base := base) T X__law_both
  have h__law_part := ok__law_part (P := P) (w := w) (base := base) T X__law_part h__law_both
  have h__law_by := ok__law_by (P := P) (w := w) (base := base) T X__law_by h__law_part
  have h__law_cell_at := ok__law_cell_at (P := P) (w := w) (base := base) T X__law_cell_at
  have h__law_mixed := ok__law_mixed (P := P) (w := w) (base := base) T X__law_mixed h__law_cell_at
  have h__law_draw := ok__law_draw (P := P) (w := w) (base := base) T X__law_draw h__law_mixed
  have h__law_pick := ok__law_pick (P := P) (w := w) (base := base) T X__law_pick h__law_draw
  have h__law_some_proportion := ok__law_some_proportion (P := P) (w := w) (base := base) T X__law_some_proportion h__law_draw h__law_part h__law_pick
  have h__law_some_nest := fun n => ok__law_some_nest (P := P) (w := w) (base := base) T X__law_some_nest h__law_draw h__law_pick h__law_some_proportion n
  have h__law_leaves := fun n => ok__law_leaves (P := P) (w := w) (base := base) T X__law_leaves n
  have h__law_inner_beams := fun n => ok__law_inner_beams (P := P) (w := w) (base := base) T X__law_inner_beams n
  have h__law_good_nest := ok__law_good_nest (P := P) (w := w) (base := base) T X__law_good_nest (h__law_inner_beams 4) (h__law_leaves 4) (h__law_some_nest 4)
  have h__law_quarter := fun n => ok__law_quarter (P := P) (w := w) (base := base) T X__law_quarter n
  exact ok_law T FF h__law_by h__law_good_nest (h__law_quarter 4) h_drawn h_is_nest h_nest_proportion h_quarter
theorem law_mk {l : PySem.W.OpenLaw} {w : World} {K : QL.Fr} {h : Heap} {mg : Str → Option Value} {fa f : Addr} {od an : Option Addr} {sl : Array (Option Value)} {oc kV dc pm cd ct : Value} (X : K.In h) (G : h.Ns mainGlobals mg) (hfa : mg "law" = some (.ref fa))
    (a : PySem.W.nsIn K mainGlobals "law" = some (some (.ref f))) (lk : K.lookup f = some ⟨oc, od, .func (PySem.W.fnOf "law" "law" (defArgs s_law) (defBody s_law) (defScope s_law) .none kV dc pm an cd ct), sl⟩) (c : PySem.W.codeIn K cd "law" = true) (k : PySem.W.keepIn K (.ref f) = true) (T : Txt K mg) (X_is_any_whole : Def K mg "is_any_whole" s_is_any_whole ["thing"]) (X_common : Def K mg "common" s_common ["one", "other"]) (X_made_of : Def K mg "made_of" s_made_of ["top", "bottom"]) (X_is_fraction : Def K mg "is_fraction" s_is_fraction ["thing"]) (X_plus : Def K mg "plus" s_plus ["one", "other"]) (X_times : Def K mg "times" s_times ["one", "other"]) (X_over : Def K mg "over" s_over ["one", "other"]) (X_total : Def K mg "total" s_total ["some"]) (X_is_proportion : Def K mg "is_proportion" s_is_proportion ["thing"]) (X_proportions_in : Def K mg "proportions_in" s_proportions_in ["thing", "left"]) (X_good_nest : Def K mg "good_nest" s_good_nest ["thing"]) (X_is_nest : Def K mg "is_nest" s_is_nest ["thing"]) (X_need_nest : Def K mg "need_nest" s_need_nest ["nest"]) (X_is_leaf : Def K mg "is_leaf" s_is_leaf ["nest"]) (X_proportion_of : Def K mg "proportion_of" s_proportion_of ["nest"]) (X_nest_proportion : Def K mg "nest_proportion" s_nest_proportion ["nest"]) (X_drawn_in : Def K mg "drawn_in" s_drawn_in ["nest", "left", "top", "height"]) (X_drawn : Def K mg "drawn" s_drawn ["nest"]) (X_quarter_of : Def K mg "quarter_of" s_quarter_of ["nest"]) (X_quarter : Def K mg "quarter" s_quarter ["nest"]) (X__law_both : Def K mg "_law_both" s__law_both ["one", "other"]) (X__law_part : Def K mg "_law_part" s__law_part ["top", "bottom"]) (X__law_by : Def K mg "_law_by" s__law_by ["one", "other"]) (X__law_cell_at : Def K mg "_law_cell_at" s__law_cell_at ["script", "k"]) (X__law_mixed : Def K mg "_law_mixed" s__law_mixed ["script", "k", "bound"]) (X__law_draw : Def K mg "_law_draw" s__law_draw ["script", "town", "bound"]) (X__law_pick : Def K mg "_law_pick" s__law_pick ["script", "town", "some"]) (X__law_some_proportion : Def K mg "_law_some_proportion" s__law_some_proportion ["script", "town"]) (X__law_some_nest : Def K mg "_law_some_nest" s__law_some_nest ["script", "town", "left"]) (X__law_leaves : Def K mg "_law_leaves" s__law_leaves ["nest"]) (X__law_inner_beams : Def K mg "_law_inner_beams" s__law_inner_beams ["nest"]) (X__law_good_nest : Def K mg "_law_good_nest" s__law_good_nest ["script", "town"]) (X__law_quarter : Def K mg "_law_quarter" s__law_quarter ["nest"]) :
    ∃ fd : FuncData, (∀ (s : Shared) (v : Value), BindsTo s fd ⟨[v], []⟩ [("script", v)]) ∧ ∀ base : Heap, K.In base → base.Ns mainGlobals mg → FnOk l.prog w K mg base CX0 14 fa fd ["script"] (spLaw K) := by
  have e := hfa.symm.trans (PySem.W.mg_of X G a)
  cases e
  exact ⟨PySem.W.fnOf "law" "law" (defArgs s_law) (defBody s_law) (defScope s_law) .none kV dc pm an cd ct, fun s v => .of_eq rfl, fun base _ _ => law_of (all_ok T X_is_any_whole X_common X_made_of X_is_fraction X_plus X_times X_over X_total X_is_proportion X_proportions_in X_good_nest X_is_nest X_need_nest X_is_leaf X_proportion_of X_nest_proportion X_drawn_in X_drawn X_quarter_of X_quarter X__law_both X__law_part X__law_by X__law_cell_at X__law_mixed X__law_draw X__law_pick X__law_some_proportion X__law_some_nest X__law_leaves X__law_inner_beams X__law_good_nest X__law_quarter (fun_mk (st := s_law) lk c k)) law_true⟩
end QP
open PySem PySem.W PyProof.Rows
set_option maxHeartbeats 0 in
theorem PySem.Challenge.cw_roomhalls_k24_whole_quarters_holds : PySem.Challenge.rw_roomhalls_k24_whole_quarters.Holds := by
  w_on; o_law; k_head; (case hw => w_witness2)
  k_fill
  refine L2.walk_of (l := PySem.Challenge.rw_roomhalls_k24_whole_quarters) (n := 63) (k := 14) (x := "script") (CX := fun _ => L2.CX0) (sp := fun w => QL.spLaw _) rfl (by decide) rfl ⟨rfl, by decide, by decide⟩ (fun w h Y => PySem.W.kIn_of Y) ?F (fun _ _ a ns hl _ hS => ⟨a, ns, rfl, hS, hl, fun _ => rfl⟩) (fun _ _ _ _ _ h => h)
  case F =>
    intro w mg fa h KX G hmg
    refine' QP.law_mk KX G hmg ?a ?l ?c ?k ⟨PySem.W.mg_none_of KX G ?z_len, PySem.W.mg_none_of KX G ?z_abs, PySem.W.mg_none_of KX G ?z_range, PySem.W.mg_none_of KX G ?z_zip, PySem.W.mg_none_of KX G ?z_enumerate, PySem.W.mg_none_of KX G ?z_all, PySem.W.mg_none_of KX G ?z_any, PySem.W.mg_none_of KX G ?z_isinstance, PySem.W.mg_none_of KX G ?z_tuple, PySem.W.mg_none_of KX G ?z_list, PySem.W.mg_none_of KX G ?z_int, PySem.W.mg_none_of KX G ?z_str, PySem.W.mg_none_of KX G ?z_bool, PySem.W.mg_none_of KX G ?z_min, PySem.W.mg_none_of KX G ?z_max, PySem.W.mg_none_of KX G ?z_sum, PySem.W.mg_none_of KX G ?z_sorted, PySem.W.mg_none_of KX G ?z_set, QP.glob_ii KX G ?c_NOUGHT ?d_NOUGHT, QP.glob_ii KX G ?c_ONE ?d_ONE, QP.glob_ss KX G ?c_WORDS ?d_WORDS, QP.glob_int KX G ?c_DEEP, QP.glob_int KX G ?c_MANY⟩ (QP.def_mk KX G ?a_is_any_whole ?l_is_any_whole ?c_is_any_whole ?k_is_any_whole (fun _ _ _ _ _ _ us hl => match us, hl with | [_], _ => rfl)) (QP.def_mk KX G ?a_common ?l_common ?c_common ?k_common (fun _ _ _ _ _ _ us hl => match us, hl with | [_, _], _ => rfl)) (QP.def_mk KX G ?a_made_of ?l_made_of ?c_made_of ?k_made_of (fun _ _ _ _ _ _ us hl => match us, hl with | [_, _], _ => rfl)) (QP.def_mk KX G ?a_is_fraction ?l_is_fraction ?c_is_fraction ?k_is_fraction (fun _ _ _ _ _ _ us hl => match us, hl with | [_], _ => rfl)) (QP.def_mk KX G ?a_plus ?l_plus ?c_plus ?k_plus (fun _ _ _ _ _ _ us hl => match us, hl with | [_, _], _ => rfl)) (QP.def_mk KX G ?a_times ?l_times ?c_times ?k_times (fun _ _ _ _ _ _ us hl => match us, hl with | [_, _], _ => rfl)) (QP.def_mk KX G ?a_over ?l_over ?c_over ?k_over (fun _ _ _ _ _ _ us hl => match us, hl with | [_, _], _ => rfl)) (QP.def_mk KX G ?a_total ?l_total ?c_total ?k_total (fun _ _ _ _ _ _ us hl => match us, hl with | [_], _ => rfl)) (QP.def_mk KX G ?a_is_proportion ?l_is_proportion ?c_is_proportion ?k_is_proportion (fun _ _ _ _ _ _ us hl => match us, hl with | [_], _ => rfl)) (QP.def_mk KX G ?a_proportions_in ?l_proportions_in ?c_proportions_in ?k_proportions_in (fun _ _ _ _ _ _ us hl => match us, hl with | [_, _], _ => rfl)) (QP.def_mk KX G ?a_good_nest ?l_good_nest ?c_good_nest ?k_good_nest (fun _ _ _ _ _ _ us hl => match us, hl with | [_], _ => rfl)) (QP.def_mk KX G ?a_is_nest ?l_is_nest ?c_is_nest ?k_is_nest (fun _ _ _ _ _ _ us hl => match us, hl with | [_], _ => rfl)) (QP.def_mk KX G ?a_need_nest ?l_need_nest ?c_need_nest ?k_need_nest (fun _ _ _ _ _ _ us hl => match us, hl with | [_], _ => rfl)) (QP.def_mk KX G ?a_is_leaf ?l_is_leaf ?c_is_leaf ?k_is_leaf (fun _ _ _ _ _ _ us hl => match us, hl with | [_], _ => rfl)) (QP.def_mk KX G ?a_proportion_of ?l_proportion_of ?c_proportion_of ?k_proportion_of (fun _ _ _ _ _ _ us hl => match us, hl with | [_], _ => rfl)) (QP.def_mk KX G ?a_nest_proportion ?l_nest_proportion ?c_nest_proportion ?k_nest_proportion (fun _ _ _ _ _ _ us hl => match us, hl with | [_], _ => rfl)) (QP.def_mk KX G ?a_drawn_in ?l_drawn_in ?c_drawn_in ?k_drawn_in (fun _ _ _ _ _ _ us hl => match us, hl with | [_, _, _, _], _ => rfl)) (QP.def_mk KX G ?a_drawn ?l_drawn ?c_drawn ?k_drawn (fun _ _ _ _ _ _ us hl => match us, hl with | [_], _ => rfl)) (QP.def_mk KX G ?a_quarter_of ?l_quarter_of ?c_quarter_of ?k_quarter_of (fun _ _ _ _ _ _ us hl => match us, hl with | [_], _ => rfl)) (QP.def_mk KX G ?a_quarter ?l_quarter ?c_quarter ?k_quarter (fun _ _ _ _ _ _ us hl => match us, hl with | [_], _ => rfl)) (QP.def_mk KX G ?a__law_both ?l__law_both ?c__law_both ?k__law_both (fun _ _ _ _ _ _ us hl => match us, hl with | [_, _], _ => rfl)) (QP.def_mk KX G ?a__law_part ?l__law_part ?c__law_part ?k__law_part (fun _ _ _ _ _ _ us hl => match us, hl with | [_, _], _ => rfl)) (QP.def_mk KX G ?a__law_by ?l__law_by ?c__law_by ?k__law_by (fun _ _ _ _ _ _ us hl => match us, hl with | [_, _], _ => rfl)) (QP.def_mk KX G ?a__law_cell_at ?l__law_cell_at ?c__law_cell_at ?k__law_cell_at (fun _ _ _ _ _ _ us hl => match us, hl with | [_, _], _ => rfl)) (QP.def_mk KX G ?a__law_mixed ?l__law_mixed ?c__law_mixed ?k__law_mixed (fun _ _ _ _ _ _ us hl => match us, hl with | [_, _, _], _ => rfl)) (QP.def_mk KX G ?a__law_draw ?l__law_draw ?c__law_draw ?k__law_draw (fun _ _ _ _ _ _ us hl => match us, hl with | [_, _, _], _ => rfl)) (QP.def_mk KX G ?a__law_pick ?l__law_pick ?c__law_pick ?k__law_pick (fun _ _ _ _ _ _ us hl => match us, hl with | [_, _, _], _ => rfl)) (QP.def_mk KX G ?a__law_some_proportion ?l__law_some_proportion ?c__law_some_proportion ?k__law_some_proportion (fun _ _ _ _ _ _ us hl => match us, hl with | [_, _], _ => rfl)) (QP.def_mk KX G ?a__law_some_nest ?l__law_some_nest ?c__law_some_nest ?k__law_some_nest (fun _ _ _ _ _ _ us hl => match us, hl with | [_, _, _], _ => rfl)) (QP.def_mk KX G ?a__law_leaves ?l__law_leaves ?c__law_leaves ?k__law_leaves (fun _ _ _ _ _ _ us hl => match us, hl with | [_], _ => rfl)) (QP.def_mk KX G ?a__law_inner_beams ?l__law_inner_beams ?c__law_inner_beams ?k__law_inner_beams (fun _ _ _ _ _ _ us hl => match us, hl with | [_], _ => rfl)) (QP.def_mk KX G ?a__law_good_nest ?l__law_good_nest ?c__law_good_nest ?k__law_good_nest (fun _ _ _ _ _ _ us hl => match us, hl with | [_, _], _ => rfl)) (QP.def_mk KX G ?a__law_quarter ?l__law_quarter ?c__law_quarter ?k__law_quarter (fun _ _ _ _ _ _ us hl => match us, hl with | [_], _ => rfl))
    (case a => k_is); (case l => k_is); (case c => k_is); (case k => k_is)
    (case z_len => k_is)
    (case z_abs => k_is)
    (case z_range => k_is)
    (case z_zip => k_is)
    (case z_enumerate => k_is)
    (case z_all => k_is)
    (case z_any => k_is)
    (case z_isinstance => k_is)
    (case z_tuple => k_is)
    (case z_list => k_is)
    (case z_int => k_is)
    (case z_str => k_is)
    (case z_bool => k_is)
    (case z_min => k_is)
    (case z_max => k_is)
    (case z_sum => k_is)
    (case z_sorted => k_is)
    (case z_set => k_is)
    (case c_NOUGHT => k_is)
    (case d_NOUGHT => k_is)
    (case c_ONE => k_is)
    (case d_ONE => k_is)
    (case c_WORDS => k_is)
    (case d_WORDS => k_is)
    (case c_DEEP => k_is)
    (case c_MANY => k_is)
    (case a_is_any_whole => k_is); (case l_is_any_whole => k_is); (case c_is_any_whole => k_is); (case k_is_any_whole => k_is)
    (case a_common => k_is); (case l_common => k_is); (case c_common => k_is); (case k_common => k_is)
    (case a_made_of => k_is); (case l_made_of => k_is); (case c_made_of => k_is); (case k_made_of => k_is)
    (case a_is_fraction => k_is); (case l_is_fraction => k_is); (case c_is_fraction => k_is); (case k_is_fraction => k_is)
    (case a_plus => k_is); (case l_plus => k_is); (case c_plus => k_is); (case k_plus => k_is)
    (case a_times => k_is); (case l_times => k_is); (case c_times => k_is); (case k_times => k_is)
    (case a_over => k_is); (case l_over => k_is); (case c_over => k_is); (case k_over => k_is)
    (case a_total => k_is); (case l_total => k_is); (case c_total => k_is); (case k_total => k_is)
    (case a_is_proportion => k_is); (case l_is_proportion => k_is); (case c_is_proportion => k_is); (case k_is_proportion => k_is)
    (case a_proportions_in => k_is); (case l_proportions_in => k_is); (case c_proportions_in => k_is); (case k_proportions_in => k_is)
    (case a_good_nest => k_is); (case l_good_nest => k_is); (case c_good_nest => k_is); (case k_good_nest => k_is)
    (case a_is_nest => k_is); (case l_is_nest => k_is); (case c_is_nest => k_is); (case k_is_nest => k_is)
    (case a_need_nest => k_is); (case l_need_nest => k_is); (case c_need_nest => k_is); (case k_need_nest => k_is)
    (case a_is_leaf => k_is); (case l_is_leaf => k_is); (case c_is_leaf => k_is); (case k_is_leaf => k_is)
    (case a_proportion_of => k_is); (case l_proportion_of => k_is); (case c_proportion_of => k_is); (case k_proportion_of => k_is)
    (case a_nest_proportion => k_is); (case l_nest_proportion => k_is); (case c_nest_proportion => k_is); (case k_nest_proportion => k_is)
    (case a_drawn_in => k_is); (case l_drawn_in => k_is); (case c_drawn_in => k_is); (case k_drawn_in => k_is)
    (case a_drawn => k_is); (case l_drawn => k_is); (case c_drawn => k_is); (case k_drawn => k_is)
    (case a_quarter_of => k_is); (case l_quarter_of => k_is); (case c_quarter_of => k_is); (case k_quarter_of => k_is)
    (case a_quarter => k_is); (case l_quarter => k_is); (case c_quarter => k_is); (case k_quarter => k_is)
    (case a__law_both => k_is); (case l__law_both => k_is); (case c__law_both => k_is); (case k__law_both => k_is)
    (case a__law_part => k_is); (case l__law_part => k_is); (case c__law_part => k_is); (case k__law_part => k_is)
    (case a__law_by => k_is); (case l__law_by => k_is); (case c__law_by => k_is); (case k__law_by => k_is)
    (case a__law_cell_at => k_is); (case l__law_cell_at => k_is); (case c__law_cell_at => k_is); (case k__law_cell_at => k_is)
    (case a__law_mixed => k_is); (case l__law_mixed => k_is); (case c__law_mixed => k_is); (case k__law_mixed => k_is)
    (case a__law_draw => k_is); (case l__law_draw => k_is); (case c__law_draw => k_is); (case k__law_draw => k_is)
    (case a__law_pick => k_is); (case l__law_pick => k_is); (case c__law_pick => k_is); (case k__law_pick => k_is)
    (case a__law_some_proportion => k_is); (case l__law_some_proportion => k_is); (case c__law_some_proportion => k_is); (case k__law_some_proportion => k_is)
    (case a__law_some_nest => k_is); (case l__law_some_nest => k_is); (case c__law_some_nest => k_is); (case k__law_some_nest => k_is)
    (case a__law_leaves => k_is); (case l__law_leaves => k_is); (case c__law_leaves => k_is); (case k__law_leaves => k_is)
    (case a__law_inner_beams => k_is); (case l__law_inner_beams => k_is); (case c__law_inner_beams => k_is); (case k__law_inner_beams => k_is)
    (case a__law_good_nest => k_is); (case l__law_good_nest => k_is); (case c__law_good_nest => k_is); (case k__law_good_nest => k_is)
    (case a__law_quarter => k_is); (case l__law_quarter => k_is); (case c__law_quarter => k_is); (case k__law_quarter => k_is)
