import PyProof.Rows.All
import Wide.All
import OpenK.AllK
import Wide.FinOn
import HandS.ForMost
import HandS.Zip
import HandS.IsInst
import HandS.Flow
import HandS.Style
import HandS.TupMul
import HandS.SortInts
import HandS.More
import HandS.Conv
import HandS.TupAny
import HandS.Iter
import HandS.NoneIn
import PyProof.Draws
import PyProof.EnumMake
import PyProof.EnumFor
import KE.GoesZip
import KE.GoesMore
import HandS.SortOrd
import KE.KRevSl
import HandS.Exc
import HandS.ExcOwn
import HandS.TryOnly
import HandS.WordsExc
import KE.KItemsList
import HandS.ListItems
import HandS.HotCalls
import HandS.ExcIs
import PyProof.ExcBaseAll.ValueError
import PySem.Challenge.RW_roomhalls_k06_whole_wider
set_option Elab.async false
set_option linter.all false
set_option maxRecDepth 100000
set_option maxHeartbeats 1000000
/-! The Q-layer: Python expressions and statements as Lean functions on plain data. -/
namespace QL
open PySem PySem.Spec PyProof.Rows L2

abbrev D := PyData
/-- what an own (mutable, not shared) object holds -/
inductive Ow where
  | lst (ds : List D)
  | dk (kvs : List (Int × D))
  | dt (kvs : List (List Int × D))
/-- a thing that is read alone: a tuple of whole numbers that stands in the heap; what stands at a told address -/
inductive Tg where
  | tk (ns : List Int)
  | adr (a : Addr)
/-- what is known of a slot -/
inductive Sl where
  | un
  | dat (d : D)
  | scr (ns : List Int)
  | own (o : Ow)
  | ref (t : Tg)
abbrev Ro := List Sl
abbrev Fr := PySem.W.Frag
abbrev St := L2.St

theorem SqT_mono {K : Fr} {H H' : Hp} {a : Addr} {xs : List V} (e : Same H H') (h : SqT K H a xs) : SqT K H' a xs := by
  rcases h with (h | ⟨o, h⟩) | h
  · exact .inl (.inl (e _ _ h))
  · exact .inl (.inr ⟨o, e _ _ h⟩)
  · exact .inr h
mutual
/-- data: lists stand tracked, tuples tracked or written -/
inductive Dq (K : Fr) (H : Hp) : V → D → Prop
  | non : Dq K H .non .none
  | bl (b : Bool) : Dq K H (.bl b) (.bool b)
  | int (i : Int) : Dq K H (.int i) (.int i)
  | str (x : Str) : Dq K H (.str x) (.str x)
  | lst {a : Addr} {xs : List V} {ds : List D} : H a = some (.lst xs) → DqAll K H xs ds → Dq K H (.ref a) (.list ds)
  | tup {a : Addr} {xs : List V} {ds : List D} : SqT K H a xs → DqAll K H xs ds → Dq K H (.ref a) (.tuple ds)
  | dic {a : Addr} {o : Obj} {us : List (Key × V)} {ds : List (D × D)} : H a = some (.frz o (.dK us)) → DqKv K H us ds → Dq K H (.ref a) (.dict ds)
inductive DqAll (K : Fr) (H : Hp) : List V → List D → Prop
  | nil : DqAll K H [] []
  | cons {v : V} {vs : List V} {d : D} {ds : List D} : Dq K H v d → DqAll K H vs ds → DqAll K H (v :: vs) (d :: ds)
/-- a locked dict with whole numbers as keys -/
inductive DqKv (K : Fr) (H : Hp) : List (Key × V) → List (D × D) → Prop
  | nil : DqKv K H [] []
  | cons {i : Int} {v : V} {vs : List (Key × V)} {d : D} {ds : List (D × D)} : Dq K H v d → DqKv K H vs ds → DqKv K H ((Sum.inl i, v) :: vs) ((.int i, d) :: ds)
end
mutual
theorem Dq_mono {K : Fr} {H H' : Hp} (e : Same H H') : ∀ {v : V} {d : D}, Dq K H v d → Dq K H' v d
  | _, _, .non => .non
  | _, _, .bl b => .bl b
  | _, _, .int i => .int i
  | _, _, .str x => .str x
  | _, _, .lst h a => .lst (e _ _ h) (DqAll_mono e a)
  | _, _, .tup h a => .tup (SqT_mono e h) (DqAll_mono e a)
  | _, _, .dic h a => .dic (e _ _ h) (DqKv_mono e a)
theorem DqAll_mono {K : Fr} {H H' : Hp} (e : Same H H') : ∀ {v : List V} {d : List D}, DqAll K H v d → DqAll K H' v d
  | _, _, .nil => .nil
  | _, _, .cons h a => .cons (Dq_mono e h) (DqAll_mono e a)
theorem DqKv_mono {K : Fr} {H H' : Hp} (e : Same H H') : ∀ {v : List (Key × V)} {d : List (D × D)}, DqKv K H v d → DqKv K H' v d
  | _, _, .nil => .nil
  | _, _, .cons h a => .cons (Dq_mono e h) (DqKv_mono e a)
end
mutual
theorem Dq.dp {K : Fr} {H H' : Hp} (e : Same H H') : ∀ {v : V} {d : D}, Dq K H v d → PyData.canLay0 d = true → Dp K H' v d
  | _, _, .non, _ => .non
  | _, _, .bl b, _ => .bl b
  | _, _, .int i, _ => .int i
  | _, _, .str x, _ => .str x
  | _, _, .lst h a, c => .lst (SqL.of (e _ _ h)) (DqAll.dp e a (by simpa [PyData.canLay0] using c))
  | _, _, .tup h a, c => .tup (SqT_mono e h) (DqAll.dp e a (by simpa [PyData.canLay0] using c))
  | _, _, .dic h a, c => by simp [PyData.canLay0] at c
theorem DqAll.dp {K : Fr} {H H' : Hp} (e : Same H H') : ∀ {v : List V} {d : List D}, DqAll K H v d → PyData.canLayAll0 d = true → DpAll K H' v d
  | _, _, .nil, _ => .nil
  | _, _, .cons h a, c => .cons (Dq.dp e h (by simp [PyData.canLayAll0] at c; exact c.1)) (DqAll.dp e a (by simp [PyData.canLayAll0] at c; exact c.2))
end
theorem shaped_lay {d : D} (h : SeqAt.shaped d = true) : PyData.canLay0 d = true := by
  unfold SeqAt.shaped at h
  rw [Bool.and_eq_true] at h
  exact h.1
theorem shaped_layAll {ds : List D} (h : SeqAt.shaped (.list ds) = true) : PyData.canLayAll0 ds = true := by
  have := shaped_lay h
  simpa [PyData.canLay0] using this
theorem DqAll.length {K : Fr} {H : Hp} : ∀ {vs : List V} {ds : List D}, DqAll K H vs ds → vs.length = ds.length
  | _, _, .nil => rfl
  | _, _, .cons _ t => by simp [DqAll.length t]
theorem DqAll.append {K : Fr} {H : Hp} : ∀ {vs ws : List V} {ds es : List D}, DqAll K H vs ds → DqAll K H ws es → DqAll K H (vs ++ ws) (ds ++ es)
  | _, _, _, _, .nil, s => s
  | _, _, _, _, .cons r t, s => .cons r (DqAll.append t s)
theorem DqAll.get {K : Fr} {H : Hp} : ∀ {vs : List V} {ds : List D} {i : Nat} {d : D}, DqAll K H vs ds → ds[i]? = some d → ∃ v, vs[i]? = some v ∧ Dq K H v d
  | _, _, _, _, .nil, e => by simp at e
  | _, _, 0, _, .cons r _, e => by simp at e; subst e; exact ⟨_, rfl, r⟩
  | _, _, i + 1, d, .cons _ t, e => by
    obtain ⟨u, h1, h2⟩ := DqAll.get (i := i) (d := d) t (by simpa using e)
    exact ⟨u, by simpa using h1, h2⟩
theorem DqAll.getV {K : Fr} {H : Hp} : ∀ {vs : List V} {ds : List D} {i : Nat} {v : V}, DqAll K H vs ds → vs[i]? = some v → ∃ d, ds[i]? = some d ∧ Dq K H v d
  | _, _, _, _, .nil, e => by simp at e
  | _, _, 0, _, .cons r _, e => by simp at e; subst e; exact ⟨_, rfl, r⟩
  | _, _, i + 1, d, .cons _ t, e => by
    obtain ⟨u, h1, h2⟩ := DqAll.getV (i := i) (v := d) t (by simpa using e)
    exact ⟨u, by simpa using h1, h2⟩
theorem DqAll.set {K : Fr} {H : Hp} {v : V} {d : D} (r : Dq K H v d) : ∀ {vs : List V} {ds : List D} (i : Nat), DqAll K H vs ds → DqAll K H (vs.set i v) (ds.set i d)
  | _, _, _, .nil => .nil
  | _, _, 0, .cons _ t => .cons r t
  | _, _, i + 1, .cons q t => .cons q (DqAll.set r i t)
theorem DqAll.take {K : Fr} {H : Hp} : ∀ {vs : List V} {ds : List D} (n : Nat), DqAll K H vs ds → DqAll K H (vs.take n) (ds.take n)
  | _, _, 0, _ => .nil
  | _, _, _ + 1, .nil => .nil
  | _, _, n + 1, .cons r t => .cons r (DqAll.take n t)
theorem DqAll.drop {K : Fr} {H : Hp} : ∀ {vs : List V} {ds : List D} (n : Nat), DqAll K H vs ds → DqAll K H (vs.drop n) (ds.drop n)
  | _, _, 0, r => r
  | _, _, _ + 1, .nil => .nil
  | _, _, n + 1, .cons _ t => DqAll.drop n t
theorem DqAll.eraseIdx {K : Fr} {H : Hp} : ∀ {vs : List V} {ds : List D} (n : Nat), DqAll K H vs ds → DqAll K H (vs.eraseIdx n) (ds.eraseIdx n)
  | _, _, _, .nil => .nil
  | _, _, 0, .cons _ t => t
  | _, _, n + 1, .cons r t => .cons r (DqAll.eraseIdx n t)
theorem DqAll.reverse {K : Fr} {H : Hp} : ∀ {vs : List V} {ds : List D}, DqAll K H vs ds → DqAll K H vs.reverse ds.reverse
  | _, _, .nil => .nil
  | _, _, .cons r t => by
    rw [List.reverse_cons, List.reverse_cons]
    exact DqAll.append (DqAll.reverse t) (.cons r .nil)

/-- an own object's content -/
def OwOk (K : Fr) (G : Hp) : Ow → HO → Prop
  | .lst ds, .lst vs => DqAll K G vs ds
  | .dk kvs, .dK us => Paired (fun (p : Int × D) (q : Key × V) => q.1 = Sum.inl p.1 ∧ Dq K G q.2 p.2) kvs us
  | .dt kvs, .dT us => Paired (fun (p : List Int × D) (q : List Key × V) => q.1 = p.1.map Sum.inl ∧ Dq K G q.2 p.2) kvs us
  | _, _ => False
def SlT (G : Hp) : Tg → Option (Option V) → Prop
  | .tk ns, o => ∃ a, o = some (some (.ref a)) ∧ G a = some (.tup (ns.map V.int))
  | .adr a, o => o = some (some (.ref a))
theorem SlT_mono {G G' : Hp} (e : Same G G') {t : Tg} {o : Option (Option V)} (h : SlT G t o) : SlT G' t o := by
  cases t with
  | tk ns => obtain ⟨a, h1, h2⟩ := h; exact ⟨a, h1, e _ _ h2⟩
  | adr a => exact h
theorem OwOk_mono {K : Fr} {G G' : Hp} (e : Same G G') : ∀ {o : Ow} {h : HO}, OwOk K G o h → OwOk K G' o h := by
  intro o h
  cases o with
  | lst ds =>
    cases h <;> first | exact fun z => z.elim | exact fun z => DqAll_mono e z
  | dk kvs =>
    cases h <;> first | exact fun z => z.elim | exact fun z => Paired.mapP z fun _ _ q => ⟨q.1, Dq_mono e q.2⟩
  | dt kvs =>
    cases h <;> first | exact fun z => z.elim | exact fun z => Paired.mapP z fun _ _ q => ⟨q.1, Dq_mono e q.2⟩
def SlOk (K : Fr) (R G H : Hp) : Sl → Option (Option V) → Prop
  | .un, _ => True
  | .dat d, o => ∃ v, o = some (some v) ∧ Dq K G v d
  | .scr ns, o => ∃ a, o = some (some (.ref a)) ∧ SqL K G a (ns.map V.int)
  | .own c, o => ∃ p ho, o = some (some (.ref p)) ∧ H p = some ho ∧ G p = none ∧ R p = none ∧ OwOk K G c ho
  | .ref t, o => SlT G t o
/-- R: what is others'; G: what is frozen data; the slots ρ of σ -/
structure Rep (K : Fr) (R G H : Hp) (ρ : Ro) (σ : St) : Prop where
  len : ρ.length = σ.length
  subR : Same R H
  subG : Same G H
  dis : ∀ a o, R a = some o → G a = none
  slot : ∀ (i : Nat) (s : Sl), ρ[i]? = some s → SlOk K R G H s σ[i]?
  apart : ∀ (i j : Nat) (c c' : Ow) (p : Addr), ρ[i]? = some (.own c) → ρ[j]? = some (.own c') → σ[i]? = some (some (.ref p)) → σ[j]? = some (some (.ref p)) → i = j
/-- the heap has grown, and the data with it -/
structure Gr (G H G' H' : Hp) : Prop where
  hh : Same H H'
  gg : Same G G'
  gh : Same G' H'
  fr : ∀ a o, G a = none → G' a = some o → H a = none
theorem Gr.refl {G H : Hp} (h : Same G H) : Gr G H G H := ⟨.refl _, .refl _, h, fun a o h1 h2 => by rw [h1] at h2; cases h2⟩
theorem Gr.trans {G H G1 H1 G2 H2 : Hp} (a : Gr G H G1 H1) (b : Gr G1 H1 G2 H2) : Gr G H G2 H2 :=
  ⟨a.hh.trans b.hh, a.gg.trans b.gg, b.gh, fun c o h1 h2 => by
    cases q : G1 c with
    | none => exact a.hh.free (b.fr c o q h2)
    | some u => exact a.fr c u h1 q⟩
/-- a new object of data -/
theorem Gr.new {G H : Hp} {p : Addr} {o : HO} (h : Same G H) (n : H p = none) : Gr G H (upd G p o) (upd H p o) := by
  refine ⟨fun b u e => ?_, fun b u e => ?_, fun b u e => ?_, fun a u h1 h2 => ?_⟩
  · rw [upd_ne (ne_of_none e n)]; exact e
  · rw [upd_ne (ne_of_none (h _ _ e) n)]; exact e
  · by_cases hb : b = p
    · subst hb; rw [upd_same] at e ⊢; exact e
    · rw [upd_ne hb] at e ⊢; exact h _ _ e
  · by_cases hb : a = p
    · subst hb; exact n
    · rw [upd_ne hb, h1] at h2; cases h2
/-- a new object that is not data (forgotten, or to be owned) -/
theorem Gr.junk {G H : Hp} {p : Addr} {o : HO} (h : Same G H) (n : H p = none) : Gr G H G (upd H p o) := by
  refine ⟨fun b u e => ?_, .refl _, fun b u e => ?_, fun a u h1 h2 => ?_⟩
  · rw [upd_ne (ne_of_none e n)]; exact e
  · rw [upd_ne (ne_of_none (h _ _ e) n)]; exact h _ _ e
  · rw [h1] at h2; cases h2
theorem Rep.grow {K : Fr} {R G H G' H' : Hp} {ρ : Ro} {σ : St} (r : Rep K R G H ρ σ) (g : Gr G H G' H') : Rep K R G' H' ρ σ := by
  refine ⟨r.len, r.subR.trans g.hh, g.gh, fun a o h => ?_, fun i s h => ?_, r.apart⟩
  · cases q : G' a with
    | none => rfl
    | some u =>
      have := g.fr a u (r.dis a o h) q
      rw [r.subR a o h] at this; cases this
  · have := r.slot i s h
    cases s with
    | un => trivial
    | dat d => obtain ⟨v, e, x⟩ := this; exact ⟨v, e, Dq_mono g.gg x⟩
    | scr ns => obtain ⟨a, e, x⟩ := this; exact ⟨a, e, g.gg.seq x⟩
    | ref t => exact SlT_mono g.gg this
    | own c =>
      obtain ⟨p, ho, e, hp, gp, rp, x⟩ := this
      refine ⟨p, ho, e, g.hh _ _ hp, ?_, rp, OwOk_mono g.gg x⟩
      cases q : G' p with
      | none => rfl
      | some u =>
        have := g.fr p u gp q
        rw [hp] at this; cases this
/-- a slot is set to data -/
theorem Rep.setD {K : Fr} {R G H : Hp} {ρ : Ro} {σ : St} {i : Nat} {v : V} {d : D} (r : Rep K R G H ρ σ) (hd : Dq K G v d) : Rep K R G H (ρ.set i (.dat d)) (σ.set i (some v)) := by
  refine ⟨by simpa using r.len, r.subR, r.subG, r.dis, fun j s h => ?_, fun j k c c' p h1 h2 h3 h4 => ?_⟩
  · by_cases hj : i = j
    · subst hj
      rw [List.getElem?_set] at h
      simp only [if_true] at h
      split at h
      · rename_i hl
        cases h
        rw [List.getElem?_set_self (by rw [← r.len]; exact hl)]
        exact ⟨v, rfl, hd⟩
      · cases h
    · rw [List.getElem?_set_ne hj] at h
      rw [List.getElem?_set_ne hj]
      exact r.slot j s h
  · have hj : i ≠ j := fun e => by
      subst e
      rw [List.getElem?_set] at h1
      simp only [if_true] at h1
      split at h1 <;> cases h1
    have hk : i ≠ k := fun e => by
      subst e
      rw [List.getElem?_set] at h2
      simp only [if_true] at h2
      split at h2 <;> cases h2
    rw [List.getElem?_set_ne hj] at h1 h3
    rw [List.getElem?_set_ne hk] at h2 h4
    exact r.apart j k c c' p h1 h2 h3 h4
/-- a slot is set to a thing that is read -/
theorem Rep.setT {K : Fr} {R G H : Hp} {ρ : Ro} {σ : St} {i : Nat} {v : V} {t : Tg} (r : Rep K R G H ρ σ) (hx : SlT G t (some (some v))) : Rep K R G H (ρ.set i (.ref t)) (σ.set i (some v)) := by
  refine ⟨by simpa using r.len, r.subR, r.subG, r.dis, fun j s h => ?_, fun j k c c' p h1 h2 h3 h4 => ?_⟩
  · by_cases hj : i = j
    · subst hj
      rw [List.getElem?_set] at h
      simp only [if_true] at h
      split at h
      · rename_i hl
        cases h
        rw [List.getElem?_set_self (by rw [← r.len]; exact hl)]
        exact hx
      · cases h
    · rw [List.getElem?_set_ne hj] at h
      rw [List.getElem?_set_ne hj]
      exact r.slot j s h
  · have hj : i ≠ j := fun e => by
      subst e
      rw [List.getElem?_set] at h1
      simp only [if_true] at h1
      split at h1 <;> cases h1
    have hk : i ≠ k := fun e => by
      subst e
      rw [List.getElem?_set] at h2
      simp only [if_true] at h2
      split at h2 <;> cases h2
    rw [List.getElem?_set_ne hj] at h1 h3
    rw [List.getElem?_set_ne hk] at h2 h4
    exact r.apart j k c c' p h1 h2 h3 h4
/-- a slot is forgotten -/
theorem Rep.forget {K : Fr} {R G H : Hp} {ρ : Ro} {σ : St} (r : Rep K R G H ρ σ) (i : Nat) (o : Option V) : Rep K R G H (ρ.set i .un) (σ.set i o) := by
  refine ⟨by simpa using r.len, r.subR, r.subG, r.dis, fun j s h => ?_, fun j k c c' p h1 h2 h3 h4 => ?_⟩
  · by_cases hj : i = j
    · subst hj
      rw [List.getElem?_set] at h
      simp only [if_true] at h
      split at h
      · cases h; trivial
      · cases h
    · rw [List.getElem?_set_ne hj] at h
      rw [List.getElem?_set_ne hj]
      exact r.slot j s h
  · have hj : i ≠ j := fun e => by
      subst e
      rw [List.getElem?_set] at h1
      simp only [if_true] at h1
      split at h1 <;> cases h1
    have hk : i ≠ k := fun e => by
      subst e
      rw [List.getElem?_set] at h2
      simp only [if_true] at h2
      split at h2 <;> cases h2
    rw [List.getElem?_set_ne hj] at h1 h3
    rw [List.getElem?_set_ne hk] at h2 h4
    exact r.apart j k c c' p h1 h2 h3 h4
/-- only the knowledge is dropped -/
theorem Rep.forgetR {K : Fr} {R G H : Hp} {ρ : Ro} {σ : St} (r : Rep K R G H ρ σ) (i : Nat) : Rep K R G H (ρ.set i .un) σ := by
  refine ⟨by simpa using r.len, r.subR, r.subG, r.dis, fun j s h => ?_, fun j k c c' p h1 h2 h3 h4 => ?_⟩
  · by_cases hj : i = j
    · subst hj
      rw [List.getElem?_set] at h
      simp only [if_true] at h
      split at h
      · cases h; trivial
      · cases h
    · rw [List.getElem?_set_ne hj] at h
      exact r.slot j s h
  · have hj : i ≠ j := fun e => by
      subst e
      rw [List.getElem?_set] at h1
      simp only [if_true] at h1
      split at h1 <;> cases h1
    have hk : i ≠ k := fun e => by
      subst e
      rw [List.getElem?_set] at h2
      simp only [if_true] at h2
      split at h2 <;> cases h2
    rw [List.getElem?_set_ne hj] at h1
    rw [List.getElem?_set_ne hk] at h2
    exact r.apart j k c c' p h1 h2 h3 h4
/-- an own list becomes data -/
theorem Rep.freeze {K : Fr} {R G H : Hp} {ρ : Ro} {σ : St} {i : Nat} {ds : List D} (r : Rep K R G H ρ σ) (h : ρ[i]? = some (.own (.lst ds))) :
    ∃ p vs, σ[i]? = some (some (.ref p)) ∧ Same G (upd G p (.lst vs)) ∧ Rep K R (upd G p (.lst vs)) H (ρ.set i (.dat (.list ds))) σ ∧ Dq K (upd G p (.lst vs)) (.ref p) (.list ds) := by
  obtain ⟨p, ho, e, hp, gp, rp, x⟩ := r.slot i _ h
  cases ho <;> try exact x.elim
  rename_i vs
  have gg : Same G (upd G p (.lst vs)) := fun b o q => by rw [upd_ne (ne_of_none q gp)]; exact q
  have hd : Dq K (upd G p (.lst vs)) (.ref p) (.list ds) := .lst upd_same (DqAll_mono gg x)
  refine ⟨p, vs, e, gg, ⟨by simpa using r.len, r.subR, fun b o q => ?_, fun a o q => ?_, fun j s hj => ?_, fun j k c c' q h1 h2 h3 h4 => ?_⟩, hd⟩
  · by_cases hb : b = p
    · subst hb; rw [upd_same] at q; cases q; exact hp
    · rw [upd_ne hb] at q; exact r.subG _ _ q
  · have : a ≠ p := fun z => by subst z; rw [rp] at q; cases q
    rw [upd_ne this]
    exact r.dis a o q
  · by_cases hij : i = j
    · subst hij
      rw [List.getElem?_set] at hj
      simp only [if_true] at hj
      split at hj
      · cases hj; exact ⟨.ref p, e, hd⟩
      · cases hj
    · rw [List.getElem?_set_ne hij] at hj
      have := r.slot j s hj
      cases s with
      | un => trivial
      | dat d => obtain ⟨v, e, x⟩ := this; exact ⟨v, e, Dq_mono gg x⟩
      | scr ns => obtain ⟨a, e, x⟩ := this; exact ⟨a, e, gg.seq x⟩
      | ref t => exact SlT_mono gg this
      | own c =>
        obtain ⟨q, ho, eq, hq, gq, rq, xq⟩ := this
        have : q ≠ p := fun z => by
          subst z
          exact hij (r.apart i j _ _ _ h hj e eq)
        exact ⟨q, ho, eq, hq, by rw [upd_ne this]; exact gq, rq, OwOk_mono gg xq⟩
  · have hj : i ≠ j := fun e => by
      subst e
      rw [List.getElem?_set] at h1
      simp only [if_true] at h1
      split at h1 <;> cases h1
    have hk : i ≠ k := fun e => by
      subst e
      rw [List.getElem?_set] at h2
      simp only [if_true] at h2
      split at h2 <;> cases h2
    rw [List.getElem?_set_ne hj] at h1
    rw [List.getElem?_set_ne hk] at h2
    exact r.apart j k c c' q h1 h2 h3 h4
/-- an own object is changed -/
theorem Rep.write {K : Fr} {R G H : Hp} {ρ : Ro} {σ : St} {i : Nat} {c c' : Ow} {p : Addr} {ho : HO} (r : Rep K R G H ρ σ) (h : ρ[i]? = some (.own c)) (e : σ[i]? = some (some (.ref p))) (hc : OwOk K G c' ho) :
    Rep K R G (upd H p ho) (ρ.set i (.own c')) σ := by
  obtain ⟨p', ho', e', hp, gp, rp, x⟩ := r.slot i _ h
  rw [e] at e'
  cases e'
  have hi : i < ρ.length := (List.getElem?_eq_some_iff.mp h).1
  have key : ∀ (j : Nat) (s : Sl), i ≠ j → ρ[j]? = some s → SlOk K R G (upd H p ho) s σ[j]? := fun j s hij hj => by
    have := r.slot j s hj
    cases s with
    | un => trivial
    | dat d => exact this
    | scr ns => exact this
    | ref t => exact this
    | own c =>
      obtain ⟨q, hq', eq, hq, gq, rq, xq⟩ := this
      have : q ≠ p := fun z => by
        subst z
        exact hij (r.apart i j _ _ _ h hj e eq)
      exact ⟨q, hq', eq, by rw [upd_ne this]; exact hq, gq, rq, xq⟩
  have own : ∀ (j : Nat) (c1 : Ow), (ρ.set i (.own c'))[j]? = some (.own c1) → ∃ c2, ρ[j]? = some (.own c2) := fun j c1 hj => by
    by_cases hij : i = j
    · subst hij; exact ⟨c, h⟩
    · rw [List.getElem?_set_ne hij] at hj; exact ⟨c1, hj⟩
  refine ⟨by simpa using r.len, fun b o q => ?_, fun b o q => ?_, r.dis, fun j s hj => ?_, fun j k c1 c2 q h1 h2 h3 h4 => ?_⟩
  · have : b ≠ p := fun z => by subst z; rw [rp] at q; cases q
    rw [upd_ne this]; exact r.subR _ _ q
  · have : b ≠ p := fun z => by subst z; rw [gp] at q; cases q
    rw [upd_ne this]; exact r.subG _ _ q
  · by_cases hij : i = j
    · subst hij
      rw [List.getElem?_set_self hi] at hj
      cases hj
      exact ⟨p, ho, e, upd_same, gp, rp, hc⟩
    · rw [List.getElem?_set_ne hij] at hj
      exact key j s hij hj
  · obtain ⟨d1, g1⟩ := own j c1 h1
    obtain ⟨d2, g2⟩ := own k c2 h2
    exact r.apart j k d1 d2 q g1 g2 h3 h4

/-! ### the judgements -/
abbrev M (α : Type) := Ro → Option (α × Ro)
def tM (K : Fr) (m : M D) : TE := fun σ H Q => ∃ R G ρ d ρ', Rep K R G H ρ σ ∧ m ρ = some (d, ρ') ∧ ∀ G' H' v, Same G G' → Rep K R G' H' ρ' σ → Dq K G' v d → Q v H'
def tMT (K : Fr) (m : M Bool) : TT := fun σ H Q => ∃ R G ρ b ρ', Rep K R G H ρ σ ∧ m ρ = some (b, ρ') ∧ ∀ G' H', Same G G' → Rep K R G' H' ρ' σ → Q b H'
def tMA (K : Fr) (m : M (List D)) : TA := fun σ H Q => ∃ R G ρ ds ρ', Rep K R G H ρ σ ∧ m ρ = some (ds, ρ') ∧ ∀ G' H' vs, Same G G' → Rep K R G' H' ρ' σ → DqAll K G' vs ds → Q vs H'
inductive Fl where
  | nx | bk | ct
  | rt (d : D)
abbrev MS := M Fl
/-- but for the slots W all is as it was -/
def Frm (W : List Nat) (σ σ' : St) : Prop := ∀ j : Nat, j ∉ W → σ'[j]? = σ[j]?
theorem Frm.refl (W : List Nat) (σ : St) : Frm W σ σ := fun _ _ => rfl
theorem Frm.trans {W V : List Nat} {σ σ1 σ2 : St} (a : Frm W σ σ1) (b : Frm V σ1 σ2) : Frm (W ++ V) σ σ2 := fun j hj => by
  rw [b j fun z => hj (List.mem_append_right _ z), a j fun z => hj (List.mem_append_left _ z)]
theorem Frm.mono {W V : List Nat} {σ σ1 : St} (a : Frm W σ σ1) (h : ∀ j ∈ W, j ∈ V) : Frm V σ σ1 := fun j hj => a j fun z => hj (h j z)
def flQ (K : Fr) (R G : Hp) (E : Ends) (σ : St) (W : List Nat) (ρ' : Ro) : Fl → Prop
  | .nx => ∀ G' H' σ', Same G G' → Rep K R G' H' ρ' σ' → Frm W σ σ' → E.nx σ' H'
  | .bk => ∀ G' H' σ', Same G G' → Rep K R G' H' ρ' σ' → Frm W σ σ' → E.bk σ' H'
  | .ct => ∀ G' H' σ', Same G G' → Rep K R G' H' ρ' σ' → Frm W σ σ' → E.ct σ' H'
  | .rt d => ∀ G' H' σ' v, Same G G' → Rep K R G' H' ρ' σ' → Frm W σ σ' → Dq K G' v d → E.rt v H'
def tMS (K : Fr) (W : List Nat) (m : MS) : TS := fun E σ H => ∃ R G ρ f ρ', Rep K R G H ρ σ ∧ m ρ = some (f, ρ') ∧ flQ K R G E σ W ρ' f
/-- a target: vs the slots that it sets -/
def tMG (K : Fr) (vs : List Nat) (f : D → Ro → Option Ro) : TG := fun v σ H Q => ∃ R G ρ d ρ', Rep K R G H ρ σ ∧ Dq K G v d ∧ f d ρ = some ρ' ∧ ∀ σ', Rep K R G H ρ' σ' → σ'.length = σ.length → (∀ j : Nat, j ∉ vs → σ'[j]? = σ[j]?) → Q σ' H
/-- what walks over the data xs -/
structure WalkD (K : Fr) (J : It) (G : Hp) (xs : List D) : Prop where
  go : ∀ (i : Nat) G' H, Same G G' → Same G' H → i < xs.length → J.go i H
  stop : ∀ (i : Nat) G' H, Same G G' → Same G' H → xs.length ≤ i → J.stop i H
  yld : ∀ (i : Nat) G' H v H' (d : D), Same G G' → Same G' H → xs[i]? = some d → J.yld i H v H' → ∃ G'', Gr G' H G'' H' ∧ Dq K G'' v d
def tMI (K : Fr) (m : M (List D)) : TI := fun σ H Q => ∃ R G ρ xs ρ', Rep K R G H ρ σ ∧ m ρ = some (xs, ρ') ∧ ∀ G' H' J, Same G G' → Rep K R G' H' ρ' σ → WalkD K J G' xs → Q J H'

theorem PE.imp {X : Cx} {e : Expr} {t t' : TE} (h : PE X e t) (w : ∀ σ H Q, t' σ H Q → t σ H Q) : PE X e t' := ⟨fun pins s σ H Q I q => h.run pins s σ H Q I (w σ H Q q)⟩
theorem PT.imp {X : Cx} {e : Expr} {t t' : TT} (h : PT X e t) (w : ∀ σ H Q, t' σ H Q → t σ H Q) : PT X e t' := ⟨fun pins s σ H Q I q => h.run pins s σ H Q I (w σ H Q q)⟩
theorem PA.imp {X : Cx} {e : List Expr} {t t' : TA} (h : PA X e t) (w : ∀ σ H Q, t' σ H Q → t σ H Q) : PA X e t' := ⟨fun pos pins s σ H Q I q => h.run pos pins s σ H Q I (w σ H Q q)⟩
theorem PS.imp {X : Cx} {e : Stmt} {t t' : TS} (h : PS X e t) (w : ∀ E σ H, t' E σ H → t E σ H) : PS X e t' := ⟨fun pins s σ H E I q => h.run pins s σ H E I (w E σ H q)⟩
theorem PSs.imp {X : Cx} {e : List Stmt} {t t' : TS} (h : PSs X e t) (w : ∀ E σ H, t' E σ H → t E σ H) : PSs X e t' := ⟨fun pins s σ H E I q => h.run pins s σ H E I (w E σ H q)⟩
theorem PG.imp {X : Cx} {e : Expr} {t t' : TG} (h : PG X e t) (w : ∀ v σ H Q, t' v σ H Q → t v σ H Q) : PG X e t' := ⟨fun pins s σ H v u Q I r q => h.run pins s σ H v u Q I r (w v σ H Q q)⟩
theorem PI.imp {X : Cx} {tg e : Expr} {t t' : TI} (h : PI X tg e t) (w : ∀ σ H Q, t' σ H Q → t σ H Q) : PI X tg e t' := ⟨fun pins s σ H Q I q => h.run pins s σ H Q I (w σ H Q q)⟩
theorem PW.imp {X : Cx} {e : Expr} {t t' : TT} (h : PW X e t) (w : ∀ σ H Q, t' σ H Q → t σ H Q) : PW X e t' := ⟨fun wh pins s σ H Q I q => h.run wh pins s σ H Q I (w σ H Q q)⟩
abbrev QE (X : Cx) (e : Expr) (m : M D) : Prop := PE X e (tM X.K m)
abbrev QT (X : Cx) (e : Expr) (m : M Bool) : Prop := PT X e (tMT X.K m)
abbrev QW (X : Cx) (e : Expr) (m : M Bool) : Prop := PW X e (tMT X.K m)
abbrev QA (X : Cx) (e : List Expr) (m : M (List D)) : Prop := PA X e (tMA X.K m)
abbrev QS (X : Cx) (W : List Nat) (e : Stmt) (m : MS) : Prop := PS X e (tMS X.K W m)
abbrev QSs (X : Cx) (W : List Nat) (e : List Stmt) (m : MS) : Prop := PSs X e (tMS X.K W m)
abbrev QG (X : Cx) (vs : List Nat) (e : Expr) (f : D → Ro → Option Ro) : Prop := PG X e (tMG X.K vs f)
abbrev QI (X : Cx) (tg e : Expr) (m : M (List D)) : Prop := PI X tg e (tMI X.K m)
end QL
set_option Elab.async false
set_option linter.all false
set_option maxRecDepth 100000
set_option maxHeartbeats 1000000
namespace QL
open PySem PySem.Spec PyProof.Rows L2

/-! ### functions on data -/
def eVar (i : Nat) : M D := fun ρ => match ρ[i]? with
  | some (.dat d) => some (d, ρ)
  | some (.own (.lst ds)) => some (.list ds, ρ.set i (.dat (.list ds)))
  | _ => none
def eC (d : D) : M D := fun ρ => some (d, ρ)
def eOp2 (f : D → D → Option D) (a b : M D) : M D := fun ρ => (a ρ).bind fun p => (b p.2).bind fun q => (f p.1 q.1).map fun z => (z, q.2)
def eOp1 (f : D → Option D) (a : M D) : M D := fun ρ => (a ρ).bind fun p => (f p.1).map fun z => (z, p.2)
def aNil : M (List D) := fun ρ => some ([], ρ)
def aCons (a : M D) (r : M (List D)) : M (List D) := fun ρ => (a ρ).bind fun p => (r p.2).map fun q => (p.1 :: q.1, q.2)
def eApp (f : List D → Option D) (as : M (List D)) : M D := fun ρ => (as ρ).bind fun p => (f p.1).map fun z => (z, p.2)
def asB : D → Option Bool
  | .bool b => some b
  | _ => none
def cV (a : M D) : M Bool := fun ρ => (a ρ).bind fun p => (asB p.1).map fun b => (b, p.2)
def cAnd (a b : M Bool) : M Bool := fun ρ => (a ρ).bind fun p => if p.1 = true then b p.2 else some (false, p.2)
def cOr (a b : M Bool) : M Bool := fun ρ => (a ρ).bind fun p => if p.1 = true then some (true, p.2) else b p.2
def cNot (a : M Bool) : M Bool := fun ρ => (a ρ).map fun p => (!p.1, p.2)
def eIf (c : M Bool) (a b : M D) : M D := fun ρ => (c ρ).bind fun p => if p.1 = true then a p.2 else b p.2
def eAnd (a b : M D) : M D := fun ρ => (a ρ).bind fun p => (asB p.1).bind fun c => if c = true then b p.2 else some (.bool false, p.2)
def eOr (a b : M D) : M D := fun ρ => (a ρ).bind fun p => (asB p.1).bind fun c => if c = true then some (.bool true, p.2) else b p.2
def eNot (a : M D) : M D := fun ρ => (a ρ).bind fun p => (asB p.1).map fun c => (.bool (!c), p.2)
def eChain (f g : D → D → Option D) (a b c : M D) : M D := fun ρ => (a ρ).bind fun p => (b p.2).bind fun q => (f p.1 q.1).bind fun z => (asB z).bind fun k =>
  if k = true then (c q.2).bind fun r => (g q.1 r.1).map fun z => (z, r.2) else some (.bool false, q.2)

/-! ### rules: names, constants -/
section
variable {X : Cx} {e a b c : Expr} {es : List Expr} {pos : Pos}
theorem qe_var (i : Nat) {x : Str} (hN : X.N[i]? = some x := by rfl) (hv : Vis X.env.scope x := by first | exact Or.inl rfl | exact Or.inr (Or.inl rfl) | exact Or.inr (Or.inr rfl)) (hd : (x == ("__debug__" : Str)) = false := by decide)
    (hcd : (x == ("__classdict__" : Str)) = false := by decide) : QE X (.Name x pos) (eVar i) := by
  refine PE.imp (pe_var hN hv hd hcd) fun σ H Q h => ?_
  obtain ⟨R, G, ρ, d, ρ', r, e, k⟩ := h
  unfold eVar at e
  split at e
  · rename_i d' hs
    cases e
    obtain ⟨v, e, x⟩ := r.slot i _ hs
    exact ⟨v, e, k G H v (.refl _) r x⟩
  · rename_i ds hs
    cases e
    obtain ⟨p, vs, e, gg, r', x⟩ := r.freeze hs
    exact ⟨.ref p, e, k _ H _ gg r' x⟩
  · cases e
theorem qe_const {v : V} {d : D} (h : PE X e (tC v)) (hd : ∀ G, Dq X.K G v d) : QE X e (eC d) := by
  refine PE.imp h fun σ H Q h => ?_
  obtain ⟨R, G, ρ, d', ρ', r, e, k⟩ := h
  cases e
  exact k G H v (.refl _) r (hd G)
theorem qe_int {i : Int} {j} : QE X (.Constant (.int i) j pos) (eC (.int i)) := qe_const pe_int fun _ => .int _
theorem qe_bl {i : Bool} {j} : QE X (.Constant (.bool i) j pos) (eC (.bool i)) := qe_const pe_bl fun _ => .bl _
theorem qe_str {i : Str} {j} : QE X (.Constant (.str i) j pos) (eC (.str i)) := qe_const pe_str fun _ => .str _
theorem qe_non {j} : QE X (.Constant .none j pos) (eC .none) := qe_const pe_non fun _ => .non
/-- a constant of the module -/
def GlobD (K : Fr) (mg : Str → Option Value) (x : Str) (d : D) : Prop := ∃ v u, mg x = some u ∧ RelV v u ∧ ∀ G, Dq K G v d
theorem qe_glob {x : Str} {d : D} (g : GlobD X.K X.mg x d) (hg : Gl X x := by rfl) (hd : (x == ("__debug__" : Str)) = false := by decide) : QE X (.Name x pos) (eC d) := by
  obtain ⟨v, u, hm, r, h⟩ := g
  exact qe_const (pe_glob hg hm r hd) h

/-! ### operators -/
/-- a two-place operation, on data -/
def OpD (K : Fr) (r : R2) (f : D → D → Option D) : Prop := ∀ (G H : Hp) (x y : V) (dx dy d : D) (Q : VK), Same G H → Dq K G x dx → Dq K G y dy → f dx dy = some d → (∀ G' H' v, Gr G H G' H' → Dq K G' v d → Q v H') → r x y H Q
theorem bind2 {m : M D} {n : M D} {α : Type} {f : D → D → Option α} {ρ : Ro} {z : α} {ρ2 : Ro} (h : ((m ρ).bind fun p => (n p.2).bind fun q => (f p.1 q.1).map fun z => (z, q.2)) = some (z, ρ2)) :
    ∃ x ρ1 y, m ρ = some (x, ρ1) ∧ n ρ1 = some (y, ρ2) ∧ f x y = some z := by
  rw [Option.bind_eq_some_iff] at h
  obtain ⟨⟨x, ρ1⟩, h1, h⟩ := h
  rw [Option.bind_eq_some_iff] at h
  obtain ⟨⟨y, ρ3⟩, h2, h⟩ := h
  rw [Option.map_eq_some_iff] at h
  obtain ⟨w, h3, h⟩ := h
  cases h
  exact ⟨x, ρ1, y, h1, h2, h3⟩
theorem tOp_of {K : Fr} {r : R2} {f : D → D → Option D} {m n : M D} (hr : OpD K r f) {σ : St} {H : Hp} {Q : VK} (h : tM K (eOp2 f m n) σ H Q) : tOp r (tM K m) (tM K n) σ H Q := by
  obtain ⟨R, G, ρ, d, ρ', rp, e, k⟩ := h
  obtain ⟨x, ρ1, y, h1, h2, h3⟩ := bind2 e
  refine ⟨R, G, ρ, x, ρ1, rp, h1, fun G1 H1 v1 s1 r1 d1 => ?_⟩
  refine ⟨R, G1, ρ1, y, ρ', r1, h2, fun G2 H2 v2 s2 r2 d2 => ?_⟩
  exact hr G2 H2 v1 v2 x y d Q r2.subG (Dq_mono s2 d1) d2 h3 fun G3 H3 v3 g3 d3 => k G3 H3 v3 ((s1.trans s2).trans g3.gg) (r2.grow g3) d3
theorem qe_op {op : Operator} {r : R2} {f : D → D → Option D} {m n : M D} (ho : OpR X (binaryOp op) r) (hd : OpD X.K r f) (ha : QE X a m) (hb : QE X b n) : QE X (.BinOp a op b pos) (eOp2 f m n) :=
  PE.imp (pe_op ho ha hb) fun _ _ _ h => tOp_of hd h
theorem qe_cmp {op : CmpOp} {r : R2} {f : D → D → Option D} {m n : M D} (ho : OpR X (compareOp op) r) (hd : OpD X.K r f) (ha : QE X a m) (hb : QE X b n) (hm : behindInMarks op b = false := by first | exact nomark _ | rfl | (with_unfolding_all rfl)) : QE X (.Compare a [op] [b] pos) (eOp2 f m n) :=
  PE.imp (pe_cmpR ho ha hb hm) fun _ _ _ h => tOp_of hd h
theorem tM_cV {K : Fr} {m : M D} {σ : St} {H : Hp} {Q : Bool → Hp → Prop} (h : tMT K (cV m) σ H Q) : tM K m σ H fun x H' => ∃ k, x = .bl k ∧ Q k H' := by
  obtain ⟨R, G, ρ, b, ρ', rp, e, k⟩ := h
  unfold cV at e
  rw [Option.bind_eq_some_iff] at e
  obtain ⟨⟨x, ρ1⟩, h1, e⟩ := e
  rw [Option.map_eq_some_iff] at e
  obtain ⟨w, h3, e⟩ := e
  cases e
  refine ⟨R, G, ρ, x, ρ1, rp, h1, fun G1 H1 v1 s1 r1 d1 => ?_⟩
  cases x <;> cases h3
  cases d1
  exact ⟨_, rfl, k G1 H1 s1 r1⟩
/-- monotone in the end -/
theorem tM_mono {K : Fr} {m : M D} {σ : St} {H : Hp} {Q Q' : VK} (h : tM K m σ H Q) (w : ∀ v H, Q v H → Q' v H) : tM K m σ H Q' := by
  obtain ⟨R, G, ρ, b, ρ', rp, e, k⟩ := h
  exact ⟨R, G, ρ, b, ρ', rp, e, fun G' H' v s r d => w _ _ (k G' H' v s r d)⟩
theorem qt_cmp {op : CmpOp} {r : R2} {f : D → D → Option D} {m n : M D} (ho : OpR X (compareOp op) r) (hd : OpD X.K r f) (ha : QE X a m) (hb : QE X b n) (hm : behindInMarks op b = false := by first | exact nomark _ | rfl | (with_unfolding_all rfl)) : QT X (.Compare a [op] [b] pos) (cV (eOp2 f m n)) :=
  PT.imp (pt_cmpR ho ha hb hm) fun _ _ _ h => tOp_of hd (tM_cV h)
theorem qt_val {m : M D} (ha : QE X a m) (he : ∀ whole, isTrue a X.env whole = (do let v ← whole; standAt a.pos; holding [v] (truthy v)) := by intro _; rfl) : QT X a (cV m) :=
  PT.imp (pt_val ha he) fun _ _ _ h => tM_cV h
theorem tChain_of {K : Fr} {r r' : R2} {f g : D → D → Option D} {m n l : M D} (hr : OpD K r f) (hr' : OpD K r' g) {σ : St} {H : Hp} {Q : VK} (h : tM K (eChain f g m n l) σ H Q) : tChain r r' (tM K m) (tM K n) (tM K l) σ H Q := by
  obtain ⟨R, G, ρ, d, ρ', rp, e, k⟩ := h
  unfold eChain at e
  rw [Option.bind_eq_some_iff] at e
  obtain ⟨⟨x, ρ1⟩, h1, e⟩ := e
  rw [Option.bind_eq_some_iff] at e
  obtain ⟨⟨y, ρ2⟩, h2, e⟩ := e
  rw [Option.bind_eq_some_iff] at e
  obtain ⟨z, h3, e⟩ := e
  rw [Option.bind_eq_some_iff] at e
  obtain ⟨t, h4, e⟩ := e
  refine ⟨R, G, ρ, x, ρ1, rp, h1, fun G1 H1 v1 s1 r1 d1 => ?_⟩
  refine ⟨R, G1, ρ1, y, ρ2, r1, h2, fun G2 H2 v2 s2 r2 d2 => ?_⟩
  refine hr G2 H2 v1 v2 x y z _ r2.subG (Dq_mono s2 d1) d2 h3 fun G3 H3 v3 g3 d3 => ?_
  cases z <;> cases h4
  cases d3
  refine ⟨_, rfl, ?_⟩
  have r3 := r2.grow g3
  cases t with
  | true =>
    rw [if_pos rfl] at e ⊢
    rw [Option.bind_eq_some_iff] at e
    obtain ⟨⟨u, ρ4⟩, h5, e⟩ := e
    rw [Option.map_eq_some_iff] at e
    obtain ⟨w, h6, e⟩ := e
    cases e
    refine ⟨R, G3, ρ2, u, _, r3, h5, fun G4 H4 v4 s4 r4 d4 => ?_⟩
    exact hr' G4 H4 v2 v4 y u _ Q r4.subG (Dq_mono (g3.gg.trans s4) d2) d4 h6 fun G5 H5 v5 g5 d5 => k G5 H5 v5 ((((s1.trans s2).trans g3.gg).trans s4).trans g5.gg) (r4.grow g5) d5
  | false =>
    rw [if_neg Bool.false_ne_true] at e ⊢
    cases e
    exact k G3 H3 _ ((s1.trans s2).trans g3.gg) r3 (.bl _)
theorem qe_chain {op op' : CmpOp} {r r' : R2} {f g : D → D → Option D} {m n l : M D} (ho : OpR X (compareOp op) r) (ho' : OpR X (compareOp op') r') (hr : OpD X.K r f) (hr' : OpD X.K r' g) (ha : QE X a m) (hb : QE X b n) (hc : QE X c l)
    (hm : lastMarks [op, op'] [b, c] = false := by with_unfolding_all rfl) : QE X (.Compare a [op, op'] [b, c] pos) (eChain f g m n l) :=
  PE.imp (pe_chain ho ho' ha hb hc hm) fun _ _ _ h => tChain_of hr hr' h
theorem qt_chain {op op' : CmpOp} {r r' : R2} {f g : D → D → Option D} {m n l : M D} (ho : OpR X (compareOp op) r) (ho' : OpR X (compareOp op') r') (hr : OpD X.K r f) (hr' : OpD X.K r' g) (ha : QE X a m) (hb : QE X b n) (hc : QE X c l)
    (hm : lastMarks [op, op'] [b, c] = false := by with_unfolding_all rfl) : QT X (.Compare a [op, op'] [b, c] pos) (cV (eChain f g m n l)) :=
  PT.imp (pt_chain ho ho' ha hb hc hm) fun _ _ _ h => tChain_of hr hr' (tM_cV h)

/-! ### and, or, not, if -/
theorem tAnd_of {K : Fr} {m n : M Bool} {σ : St} {H : Hp} {Q : Bool → Hp → Prop} (h : tMT K (cAnd m n) σ H Q) : tAnd (tMT K m) (tMT K n) σ H Q := by
  obtain ⟨R, G, ρ, d, ρ', rp, e, k⟩ := h
  unfold cAnd at e
  rw [Option.bind_eq_some_iff] at e
  obtain ⟨⟨x, ρ1⟩, h1, e⟩ := e
  refine ⟨R, G, ρ, x, ρ1, rp, h1, fun G1 H1 s1 r1 => ?_⟩
  cases x with
  | true =>
    rw [if_pos rfl] at e ⊢
    exact ⟨R, G1, ρ1, d, ρ', r1, e, fun G2 H2 s2 r2 => k G2 H2 (s1.trans s2) r2⟩
  | false =>
    rw [if_neg Bool.false_ne_true] at e ⊢
    cases e
    exact k G1 H1 s1 r1
theorem tOr_of {K : Fr} {m n : M Bool} {σ : St} {H : Hp} {Q : Bool → Hp → Prop} (h : tMT K (cOr m n) σ H Q) : tOr (tMT K m) (tMT K n) σ H Q := by
  obtain ⟨R, G, ρ, d, ρ', rp, e, k⟩ := h
  unfold cOr at e
  rw [Option.bind_eq_some_iff] at e
  obtain ⟨⟨x, ρ1⟩, h1, e⟩ := e
  refine ⟨R, G, ρ, x, ρ1, rp, h1, fun G1 H1 s1 r1 => ?_⟩
  cases x with
  | true =>
    rw [if_pos rfl] at e ⊢
    cases e
    exact k G1 H1 s1 r1
  | false =>
    rw [if_neg Bool.false_ne_true] at e ⊢
    exact ⟨R, G1, ρ1, d, ρ', r1, e, fun G2 H2 s2 r2 => k G2 H2 (s1.trans s2) r2⟩
variable {rest : List Expr} {m n : M Bool}
theorem qw_and1 (ha : QT X a m) : QW X (.BoolOp .And [a] pos) m := pw_and1 ha
theorem qw_or1 (ha : QT X a m) : QW X (.BoolOp .Or [a] pos) m := pw_or1 ha
theorem qw_and (ha : QT X a m) (hb : QW X (.BoolOp .And (b :: rest) pos) n) : QW X (.BoolOp .And (a :: b :: rest) pos) (cAnd m n) := PW.imp (pw_and ha hb) fun _ _ _ h => tAnd_of h
theorem qw_or (ha : QT X a m) (hb : QW X (.BoolOp .Or (b :: rest) pos) n) : QW X (.BoolOp .Or (a :: b :: rest) pos) (cOr m n) := PW.imp (pw_or ha hb) fun _ _ _ h => tOr_of h
theorem qw_pt (ha : QW X a m) : QT X a m := PW.pt ha
theorem qt_not (ha : QT X a m) : QT X (.UnaryOp .Not a pos) (cNot m) := by
  refine PT.imp (pt_not ha) fun σ H Q h => ?_
  obtain ⟨R, G, ρ, d, ρ', rp, e, k⟩ := h
  unfold cNot at e
  rw [Option.map_eq_some_iff] at e
  obtain ⟨⟨x, ρ1⟩, h1, e⟩ := e
  cases e
  exact ⟨R, G, ρ, x, _, rp, h1, fun G1 H1 s1 r1 => k G1 H1 s1 r1⟩
theorem qe_if {u v : M D} (hc : QT X c m) (ha : QE X a u) (hb : QE X b v) : QE X (.IfExp c a b pos) (eIf m u v) := by
  refine PE.imp (pe_ifExp hc ha hb) fun σ H Q h => ?_
  obtain ⟨R, G, ρ, d, ρ', rp, e, k⟩ := h
  unfold eIf at e
  rw [Option.bind_eq_some_iff] at e
  obtain ⟨⟨x, ρ1⟩, h1, e⟩ := e
  refine ⟨R, G, ρ, x, ρ1, rp, h1, fun G1 H1 s1 r1 => ?_⟩
  cases x with
  | true =>
    rw [if_pos rfl] at e ⊢
    exact ⟨R, G1, ρ1, d, ρ', r1, e, fun G2 H2 v s2 r2 => k G2 H2 v (s1.trans s2) r2⟩
  | false =>
    rw [if_neg Bool.false_ne_true] at e ⊢
    exact ⟨R, G1, ρ1, d, ρ', r1, e, fun G2 H2 v s2 r2 => k G2 H2 v (s1.trans s2) r2⟩
theorem qe_one {op} {u : M D} (ha : QE X a u) : QE X (.BoolOp op [a] pos) u := pe_one ha
theorem qe_and {u v : M D} (ha : QE X a u) (hb : QE X (.BoolOp .And (b :: rest) pos) v) : QE X (.BoolOp .And (a :: b :: rest) pos) (eAnd u v) := by
  refine PE.imp (pe_and ha hb) fun σ H Q h => ?_
  obtain ⟨R, G, ρ, d, ρ', rp, e, k⟩ := h
  unfold eAnd at e
  rw [Option.bind_eq_some_iff] at e
  obtain ⟨⟨x, ρ1⟩, h1, e⟩ := e
  rw [Option.bind_eq_some_iff] at e
  obtain ⟨t, h4, e⟩ := e
  refine ⟨R, G, ρ, x, ρ1, rp, h1, fun G1 H1 v1 s1 r1 d1 => ?_⟩
  cases x <;> cases h4
  cases d1
  refine ⟨_, rfl, ?_⟩
  cases t with
  | true =>
    rw [if_pos rfl] at e ⊢
    exact ⟨R, G1, ρ1, d, ρ', r1, e, fun G2 H2 v s2 r2 => k G2 H2 v (s1.trans s2) r2⟩
  | false =>
    rw [if_neg Bool.false_ne_true] at e ⊢
    cases e
    exact k G1 H1 _ s1 r1 (.bl _)
theorem qe_or {u v : M D} (ha : QE X a u) (hb : QE X (.BoolOp .Or (b :: rest) pos) v) : QE X (.BoolOp .Or (a :: b :: rest) pos) (eOr u v) := by
  refine PE.imp (pe_or ha hb) fun σ H Q h => ?_
  obtain ⟨R, G, ρ, d, ρ', rp, e, k⟩ := h
  unfold eOr at e
  rw [Option.bind_eq_some_iff] at e
  obtain ⟨⟨x, ρ1⟩, h1, e⟩ := e
  rw [Option.bind_eq_some_iff] at e
  obtain ⟨t, h4, e⟩ := e
  refine ⟨R, G, ρ, x, ρ1, rp, h1, fun G1 H1 v1 s1 r1 d1 => ?_⟩
  cases x <;> cases h4
  cases d1
  refine ⟨_, rfl, ?_⟩
  cases t with
  | true =>
    rw [if_pos rfl] at e ⊢
    cases e
    exact k G1 H1 _ s1 r1 (.bl _)
  | false =>
    rw [if_neg Bool.false_ne_true] at e ⊢
    exact ⟨R, G1, ρ1, d, ρ', r1, e, fun G2 H2 v s2 r2 => k G2 H2 v (s1.trans s2) r2⟩
theorem qe_not {u : M D} (ha : QE X a u) : QE X (.UnaryOp .Not a pos) (eNot u) := by
  refine PE.imp (pe_not ha) fun σ H Q h => ?_
  obtain ⟨R, G, ρ, d, ρ', rp, e, k⟩ := h
  unfold eNot at e
  rw [Option.bind_eq_some_iff] at e
  obtain ⟨⟨x, ρ1⟩, h1, e⟩ := e
  rw [Option.map_eq_some_iff] at e
  obtain ⟨t, h4, e⟩ := e
  refine ⟨R, G, ρ, x, ρ1, rp, h1, fun G1 H1 v1 s1 r1 d1 => ?_⟩
  cases x <;> cases h4
  cases d1
  cases e
  exact ⟨_, rfl, k G1 H1 _ s1 r1 (.bl _)⟩
end

/-! ### argument lists, displays, calls -/
section
variable {X : Cx} {e : Expr} {es : List Expr} {pos p : Pos}
theorem qa_nil : QA X [] aNil := PA.imp pa_nil fun σ H Q h => by
  obtain ⟨R, G, ρ, d, ρ', rp, e, k⟩ := h
  cases e
  exact k G H [] (.refl _) rp .nil
theorem qa_cons {m : M D} {n : M (List D)} (ha : QE X e m) (hr : QA X es n) (hs : starEach (e :: es) X.env = (false, eval e X.env) :: starEach es X.env := by rfl) : QA X (e :: es) (aCons m n) := by
  refine PA.imp (pa_cons ha hr hs) fun σ H Q h => ?_
  obtain ⟨R, G, ρ, d, ρ', rp, e, k⟩ := h
  unfold aCons at e
  rw [Option.bind_eq_some_iff] at e
  obtain ⟨⟨x, ρ1⟩, h1, e⟩ := e
  rw [Option.map_eq_some_iff] at e
  obtain ⟨⟨y, ρ2⟩, h2, e⟩ := e
  cases e
  refine ⟨R, G, ρ, x, ρ1, rp, h1, fun G1 H1 v1 s1 r1 d1 => ?_⟩
  refine ⟨R, G1, ρ1, y, _, r1, h2, fun G2 H2 v2 s2 r2 d2 => ?_⟩
  exact k G2 H2 (v1 :: v2) (s1.trans s2) r2 (.cons (Dq_mono s2 d1) d2)
/-- a call by values, on data -/
def CallD (K : Fr) (r : List V → Hp → VK → Prop) (f : List D → Option D) : Prop := ∀ (G H : Hp) (vs : List V) (ds : List D) (d : D) (Q : VK), Same G H → DqAll K G vs ds → f ds = some d → (∀ G' H' v, Gr G H G' H' → Dq K G' v d → Q v H') → r vs H Q
theorem bindA {m : M (List D)} {f : List D → Option D} {ρ : Ro} {z : D} {ρ2 : Ro} (h : eApp f m ρ = some (z, ρ2)) : ∃ x, m ρ = some (x, ρ2) ∧ f x = some z := by
  unfold eApp at h
  rw [Option.bind_eq_some_iff] at h
  obtain ⟨⟨x, ρ1⟩, h1, h⟩ := h
  rw [Option.map_eq_some_iff] at h
  obtain ⟨w, h3, h⟩ := h
  cases h
  exact ⟨x, h1, h3⟩
theorem tApp_of {K : Fr} {r : List V → Hp → VK → Prop} {f : List D → Option D} {m : M (List D)} (hr : CallD K r f) {σ : St} {H : Hp} {Q : VK} (h : tM K (eApp f m) σ H Q) : tMA K m σ H fun vs H1 => r vs H1 Q := by
  obtain ⟨R, G, ρ, d, ρ', rp, e, k⟩ := h
  obtain ⟨x, h1, h2⟩ := bindA e
  refine ⟨R, G, ρ, x, ρ', rp, h1, fun G1 H1 v1 s1 r1 d1 => ?_⟩
  exact hr G1 H1 v1 x d Q r1.subG d1 h2 fun G3 H3 v3 g3 d3 => k G3 H3 v3 (s1.trans g3.gg) (r1.grow g3) d3
def mkTup (ds : List D) : Option D := if ds.length ≤ 1000000 then some (.tuple ds) else none
def mkLst (ds : List D) : Option D := if ds.length ≤ 1000000 then some (.list ds) else none
theorem size_of {n : Nat} (h : n ≤ 1000000) : n ≤ sizeLine := Nat.le_trans h (by decide)
theorem mkTup_ok {K : Fr} : CallD K (fun xs H1 Q => xs.length ≤ sizeLine ∧ ∀ p, H1 p = none → Q (.ref p) (upd H1 p (.tup xs))) mkTup := by
  intro G H vs ds d Q s h e k
  unfold mkTup at e
  split at e
  · rename_i hl
    cases e
    refine ⟨by rw [h.length]; exact size_of hl, fun p hp => k _ _ _ (Gr.new s hp) ?_⟩
    exact .tup (SqT.of upd_same) (DqAll_mono (Gr.new (o := .tup vs) s hp).gg h)
  · cases e
theorem mkLst_ok {K : Fr} : CallD K (fun xs H1 Q => xs.length ≤ sizeLine ∧ ∀ p, H1 p = none → Q (.ref p) (upd H1 p (.lst xs))) mkLst := by
  intro G H vs ds d Q s h e k
  unfold mkLst at e
  split at e
  · rename_i hl
    cases e
    refine ⟨by rw [h.length]; exact size_of hl, fun p hp => k _ _ _ (Gr.new s hp) ?_⟩
    exact .lst upd_same (DqAll_mono (Gr.new (o := .lst vs) s hp).gg h)
  · cases e
theorem qe_tup {x1} {m : M (List D)} (h : QA X es m) : QE X (.Tuple es x1 pos) (eApp mkTup m) := PE.imp (pe_tup h) fun _ _ _ h => tApp_of mkTup_ok h
theorem qe_lst {m : M (List D)} (h : QA X es m) : QE X (.List es pos) (eApp mkLst m) := PE.imp (pe_lst h) fun _ _ _ h => tApp_of mkLst_ok h
theorem qe_callB {x : Str} {id : String} {r : List V → Hp → VK → Prop} {f : List D → Option D} {m : M (List D)} (hc : CallR X (.builtin id) r) (hd : CallD X.K r f) (hm : X.mg x = none) (ha : QA X (e :: es) m) (hg : Gl X x := by rfl) (hv : bootBuiltins x = some (.builtin id) := by decide +kernel) (hn : x ≠ "__name__" := by decide) (hdb : (x == ("__debug__" : Str)) = false := by decide)
    (he : starEach (e :: es) X.env = (false, eval e X.env) :: starEach es X.env := by rfl) (hpl : (backTo pos (starEach es X.env)).any (·.1) = false := by rfl) : QE X (.Call (.Name x p) (e :: es) [] pos) (eApp f m) :=
  PE.imp (pe_callB hc hg hm hv ha hn hdb he hpl) fun _ _ _ h => tApp_of hd h
theorem qe_callTy {x : Str} {T : String} {r : List V → Hp → VK → Prop} {f : List D → Option D} {m : M (List D)} (hc : CallR X (.type T) r) (hd : CallD X.K r f) (hm : X.mg x = none) (ha : QA X (e :: es) m) (hg : Gl X x := by rfl) (hv : bootBuiltins x = some (.type T) := by decide +kernel) (hn : x ≠ "__name__" := by decide) (hdb : (x == ("__debug__" : Str)) = false := by decide)
    (he : starEach (e :: es) X.env = (false, eval e X.env) :: starEach es X.env := by rfl) (hpl : (backTo pos (starEach es X.env)).any (·.1) = false := by rfl) : QE X (.Call (.Name x p) (e :: es) [] pos) (eApp f m) :=
  PE.imp (pe_callTy hc hg hm hv ha hn hdb he hpl) fun _ _ _ h => tApp_of hd h
/-- a def's body run upon data: n parameters, N slots -/
def endOf : Option (Fl × Ro) → Option D
  | some (.rt d, _) => some d
  | some (.nx, _) => some .none
  | _ => none
def runF (n N : Nat) (body : MS) : List D → Option D := fun ds => if ds.length = n then endOf (body (ds.map Sl.dat ++ List.replicate (N - n) Sl.un)) else none
theorem runF_len {n N : Nat} {body : MS} : ∀ ds d, runF n N body ds = some d → ds.length = n := by
  intro ds d h
  unfold runF at h
  split at h
  · assumption
  · cases h
/-- a def of data to data -/
def spP (K : Fr) (F : List D → Option D) (n : Nat) : Sp := fun vs H Q _ => vs.length = n ∧ ∃ G ds d, Same G H ∧ DqAll K G vs ds ∧ F ds = some d ∧ ∀ G' H' v, Gr G H G' H' → Dq K G' v d → Q v H'
theorem qe_call {x : Str} {k : Nat} {f : Addr} {fd : FuncData} {ps : List Str} {F : List D → Option D} {n : Nat} {m : M (List D)} (FO : FnOk X.prog X.w X.K X.mg X.base CX0 k f fd ps (spP X.K F n)) (hr : Room k X.A) (hm : X.mg x = some (.ref f)) (hk : PySem.W.keepIn X.K (.ref f) = true) (hb : Binds X.K fd ps [])
    (ha : QA X (e :: es) m) (hg : Gl X x := by rfl) (hdb : (x == ("__debug__" : Str)) = false := by decide) (he : starEach (e :: es) X.env = (false, eval e X.env) :: starEach es X.env := by rfl) (hpl : (backTo pos (starEach es X.env)).any (·.1) = false := by rfl)
    (hF : ∀ ds d, F ds = some d → ds.length = n := by exact runF_len) :
    QE X (.Call (.Name x p) (e :: es) [] pos) (eApp F m) := by
  refine PE.imp (pe_call (E := fun _ _ _ => False) FO hr hg hm hk hb .nil pass0 ha hdb he hpl) fun σ H Q h => ?_
  obtain ⟨R, G, ρ, d, ρ', rp, e, k⟩ := h
  obtain ⟨x, h1, h2⟩ := bindA e
  refine ⟨R, G, ρ, x, ρ', rp, h1, fun G1 H1 v1 s1 r1 d1 => ?_⟩
  show spP X.K F n (v1 ++ []) H1 Q _
  rw [List.append_nil]
  exact ⟨by rw [d1.length]; exact hF _ _ h2, G1, x, d, r1.subG, d1, h2, fun G3 H3 v3 g3 d3 => k G3 H3 v3 (s1.trans g3.gg) (r1.grow g3) d3⟩
end
end QL
set_option Elab.async false
set_option linter.all false
set_option maxRecDepth 100000
set_option maxHeartbeats 1000000
namespace QL
open PySem PySem.Spec PyProof.Rows L2

def sNil : MS := fun ρ => some (.nx, ρ)
def sSeq (a b : MS) : MS := fun ρ => (a ρ).bind fun p => match p.1 with
  | .nx => b p.2
  | f => some (f, p.2)
def sRet (a : M D) : MS := fun ρ => (a ρ).map fun p => (.rt p.1, p.2)
def sIf (c : M Bool) (a b : MS) : MS := fun ρ => (c ρ).bind fun p => if p.1 = true then a p.2 else b p.2
def gSet (i : Nat) : D → Ro → Option Ro := fun d ρ => some (ρ.set i (.dat d))
def gTupF : List (D → Ro → Option Ro) → List D → Ro → Option Ro
  | [], [], ρ => some ρ
  | f :: fs, d :: ds, ρ => (f d ρ).bind fun ρ1 => gTupF fs ds ρ1
  | _, _, _ => none
def unTup : D → Option (List D)
  | .tuple ds => some ds
  | _ => none
def gTup (fs : List (D → Ro → Option Ro)) : D → Ro → Option Ro := fun d ρ => (unTup d).bind fun ds => gTupF fs ds ρ
def sAsg (a : M D) (g : D → Ro → Option Ro) : MS := fun ρ => (a ρ).bind fun p => (g p.1 p.2).map fun ρ2 => (.nx, ρ2)
def sPar (i j : Nat) (as : M (List D)) : MS := fun ρ => (as ρ).bind fun p => match p.1 with
  | [x, y] => some (.nx, (p.2.set i (.dat x)).set j (.dat y))
  | _ => none
def sDrop (a : M D) : MS := fun ρ => (a ρ).map fun p => (.nx, p.2)
/-- the turns of a loop -/
def forM (g : D → Ro → Option Ro) (b : MS) : List D → MS
  | [], ρ => some (.nx, ρ)
  | x :: xs, ρ => (g x ρ).bind fun ρ1 => (b ρ1).bind fun p => match p.1 with
    | .nx => forM g b xs p.2
    | .ct => forM g b xs p.2
    | .bk => some (.nx, p.2)
    | .rt d => some (.rt d, p.2)
def sFor (it : M (List D)) (g : D → Ro → Option Ro) (b : MS) : MS := fun ρ => (it ρ).bind fun p => forM g b p.1 p.2
def whileM (c : M Bool) (b : MS) : Nat → MS
  | 0, _ => none
  | n + 1, ρ => (c ρ).bind fun q => if q.1 = true then ((b q.2).bind fun p => match p.1 with
    | .nx => whileM c b n p.2
    | .ct => whileM c b n p.2
    | .bk => some (.nx, p.2)
    | .rt d => some (.rt d, p.2)) else some (.nx, q.2)
def sWhile (fuel : Ro → Nat) (c : M Bool) (b : MS) : MS := fun ρ => whileM c b (fuel ρ) ρ

section
variable {X : Cx} {pos : Pos} {st : Stmt} {rest : List Stmt} {e : Expr}
theorem flQ_mono {K : Fr} {R G G1 : Hp} {E : Ends} {ρ' : Ro} {W V : List Nat} {σ σ1 : St} {f : Fl} (h : flQ K R G E σ W ρ' f) (s : Same G G1) (fr : ∀ σ', Frm V σ1 σ' → Frm W σ σ') : flQ K R G1 E σ1 V ρ' f := by
  cases f with
  | nx => exact fun G' H' σ' s' r f => h G' H' σ' (s.trans s') r (fr σ' f)
  | bk => exact fun G' H' σ' s' r f => h G' H' σ' (s.trans s') r (fr σ' f)
  | ct => exact fun G' H' σ' s' r f => h G' H' σ' (s.trans s') r (fr σ' f)
  | rt d => exact fun G' H' σ' v s' r f => h G' H' σ' v (s.trans s') r (fr σ' f)
theorem qs_nil : QSs X [] [] sNil := PSs.imp pss_nil fun E σ H h => by
  obtain ⟨R, G, ρ, f, ρ', rp, e, k⟩ := h
  cases e
  exact k G H σ (.refl _) rp (.refl _ _)
theorem qs_one {m : MS} {W : List Nat} (h : QS X W st m) : QSs X W [st] m := pss_one h
theorem qs_cons {m n : MS} {W V : List Nat} (h1 : QS X W st m) (h2 : QSs X V rest n) : QSs X (W ++ V) (st :: rest) (sSeq m n) := by
  refine PSs.imp (pss_cons h1 h2) fun E σ H h => ?_
  obtain ⟨R, G, ρ, f, ρ', rp, e, k⟩ := h
  unfold sSeq at e
  rw [Option.bind_eq_some_iff] at e
  obtain ⟨⟨f1, ρ1⟩, h1, e⟩ := e
  refine ⟨R, G, ρ, f1, ρ1, rp, h1, ?_⟩
  have left : ∀ σ', Frm W σ σ' → Frm (W ++ V) σ σ' := fun σ' z => z.mono fun j hj => List.mem_append_left _ hj
  cases f1 with
  | nx =>
    intro G1 H1 σ1 s1 r1 f1
    exact ⟨R, G1, ρ1, f, ρ', r1, e, flQ_mono k s1 fun σ' z => f1.trans z⟩
  | bk => cases e; exact flQ_mono (f := .bk) k (.refl _) left
  | ct => cases e; exact flQ_mono (f := .ct) k (.refl _) left
  | rt d => cases e; exact flQ_mono (f := .rt d) k (.refl _) left
theorem qs_ret {m : M D} (h : QE X e m) : QS X [] (.Return (some e) pos) (sRet m) := by
  refine PS.imp (ps_ret h) fun E σ H h => ?_
  obtain ⟨R, G, ρ, f, ρ', rp, e, k⟩ := h
  unfold sRet at e
  rw [Option.map_eq_some_iff] at e
  obtain ⟨⟨x, ρ1⟩, h1, e⟩ := e
  cases e
  exact ⟨R, G, ρ, x, _, rp, h1, fun G' H' v s r d => k G' H' σ v s r (.refl _ _) d⟩
theorem qs_expr {m : M D} (h : QE X e m) (hs : swapsWith e none pos.line X.env = pure false := by rfl) : QS X [] (.Expr e pos) (sDrop m) := by
  refine PS.imp (ps_expr h hs) fun E σ H h => ?_
  obtain ⟨R, G, ρ, f, ρ', rp, e, k⟩ := h
  unfold sDrop at e
  rw [Option.map_eq_some_iff] at e
  obtain ⟨⟨x, ρ1⟩, h1, e⟩ := e
  cases e
  exact ⟨R, G, ρ, x, _, rp, h1, fun G' H' v s r d => k G' H' σ s r (.refl _ _)⟩
theorem qs_if {c : Expr} {a b : List Stmt} {m : M Bool} {u v : MS} {W V : List Nat} (hc : QT X c m) (ha : QSs X W a u) (hb : QSs X V b v) : QS X (W ++ V) (.If c a b pos) (sIf m u v) := by
  refine PS.imp (ps_if hc ha hb) fun E σ H h => ?_
  obtain ⟨R, G, ρ, f, ρ', rp, e, k⟩ := h
  unfold sIf at e
  rw [Option.bind_eq_some_iff] at e
  obtain ⟨⟨x, ρ1⟩, h1, e⟩ := e
  refine ⟨R, G, ρ, x, ρ1, rp, h1, fun G1 H1 s1 r1 => ?_⟩
  cases x with
  | true =>
    rw [if_pos rfl] at e ⊢
    exact ⟨R, G1, ρ1, f, ρ', r1, e, flQ_mono k s1 fun σ' z => z.mono fun j hj => List.mem_append_left _ hj⟩
  | false =>
    rw [if_neg Bool.false_ne_true] at e ⊢
    exact ⟨R, G1, ρ1, f, ρ', r1, e, flQ_mono k s1 fun σ' z => z.mono fun j hj => List.mem_append_right _ hj⟩
/-- code that is never come to -/
def sNever : MS := fun _ => none
theorem qs_never : QS X [] st sNever := PS.imp ps_never fun E σ H h => by obtain ⟨_, _, _, _, _, _, e, _⟩ := h; cases e
theorem qss_never {sts : List Stmt} : QSs X [] sts sNever := PSs.imp pss_never fun E σ H h => by obtain ⟨_, _, _, _, _, _, e, _⟩ := h; cases e

/-! ### targets, assignments -/
theorem qg_name (i : Nat) {x : Str} (hN : X.N.Nodup) (hi : X.N[i]? = some x := by rfl) (hx : Loc X.env.scope x := by first | exact Or.inl rfl | exact Or.inr rfl) (hf : X.fn x = true ∨ X.env.scope.names.lookup x = some .local := by first | exact .inl rfl | exact .inr rfl | assumption) : QG X [i] (.Name x pos) (gSet i) := by
  refine PG.imp (pg_name hN hi hx hf) fun v σ H Q h => ?_
  obtain ⟨R, G, ρ, d, ρ', rp, dd, e, k⟩ := h
  cases e
  exact k _ (rp.setD dd) (by simp) fun j hj => by
    have : i ≠ j := fun z => hj (by simp [z])
    rw [List.getElem?_set_ne this]
end
end QL
set_option Elab.async false
set_option linter.all false
set_option maxRecDepth 100000
set_option maxHeartbeats 1000000
namespace QL
open PySem PySem.Spec PyProof.Rows L2

/-! ### values that stand behind the slots -/
theorem Rep.pushD {K : Fr} {R G H : Hp} {ρ : Ro} {σ : St} {v : V} {d : D} (r : Rep K R G H ρ σ) (hd : Dq K G v d) : Rep K R G H (ρ ++ [.dat d]) (σ ++ [some v]) := by
  have key : ∀ (i : Nat) (s : Sl), (ρ ++ [Sl.dat d])[i]? = some s → (ρ[i]? = some s ∧ (σ ++ [some v])[i]? = σ[i]?) ∨ (s = .dat d ∧ (σ ++ [some v])[i]? = some (some v)) := fun i s h => by
    by_cases hi : i < ρ.length
    · rw [List.getElem?_append_left hi] at h
      exact .inl ⟨h, List.getElem?_append_left (by rw [← r.len]; exact hi)⟩
    · have h1 : (ρ ++ [Sl.dat d])[i]? = [Sl.dat d][i - ρ.length]? := List.getElem?_append_right (by omega)
      rw [h1] at h
      have e : i - ρ.length = 0 := by
        cases q : i - ρ.length with
        | zero => rfl
        | succ k => rw [q] at h; simp at h
      rw [e] at h
      refine .inr ⟨(Option.some.inj h).symm, ?_⟩
      rw [List.getElem?_append_right (by rw [← r.len]; omega), ← r.len, e]
      rfl
  refine ⟨by simp [r.len], r.subR, r.subG, r.dis, fun i s h => ?_, fun i j c c' p h1 h2 h3 h4 => ?_⟩
  · rcases key i s h with ⟨h, e⟩ | ⟨rfl, e⟩
    · rw [e]; exact r.slot i s h
    · rw [e]; exact ⟨v, rfl, hd⟩
  · rcases key i _ h1 with ⟨h1, e1⟩ | ⟨z, _⟩
    · rcases key j _ h2 with ⟨h2, e2⟩ | ⟨z, _⟩
      · rw [e1] at h3; rw [e2] at h4
        exact r.apart i j c c' p h1 h2 h3 h4
      · cases z
    · cases z
theorem Rep.pushO {K : Fr} {R G H : Hp} {ρ : Ro} {σ : St} {p : Addr} {c : Ow} {ho : HO} (r : Rep K (upd R p ho) G H ρ σ) (hc : OwOk K G c ho) (hR : R p = none) : Rep K R G H (ρ ++ [.own c]) (σ ++ [some (.ref p)]) := by
  have hp : H p = some ho := r.subR p ho upd_same
  have gp : G p = none := r.dis p ho upd_same
  have key : ∀ (i : Nat) (s : Sl), (ρ ++ [Sl.own c])[i]? = some s → (ρ[i]? = some s ∧ (σ ++ [some (.ref p)])[i]? = σ[i]? ∧ i < ρ.length) ∨ (s = .own c ∧ (σ ++ [some (.ref p)])[i]? = some (some (.ref p)) ∧ i = ρ.length) := fun i s h => by
    by_cases hi : i < ρ.length
    · rw [List.getElem?_append_left hi] at h
      exact .inl ⟨h, List.getElem?_append_left (by rw [← r.len]; exact hi), hi⟩
    · have h1 : (ρ ++ [Sl.own c])[i]? = [Sl.own c][i - ρ.length]? := List.getElem?_append_right (by omega)
      rw [h1] at h
      have e : i - ρ.length = 0 := by
        cases q : i - ρ.length with
        | zero => rfl
        | succ k => rw [q] at h; simp at h
      rw [e] at h
      refine .inr ⟨(Option.some.inj h).symm, ?_, by omega⟩
      rw [List.getElem?_append_right (by rw [← r.len]; omega), ← r.len, e]
      rfl
  have np : ∀ (i : Nat) (c : Ow) (q : Addr), ρ[i]? = some (.own c) → σ[i]? = some (some (.ref q)) → q ≠ p := fun i c q h e z => by
    obtain ⟨q', ho', e', _, _, rq, _⟩ := r.slot i _ h
    rw [e'] at e
    cases e
    rw [z, upd_same] at rq
    cases rq
  refine ⟨by simp [r.len], fun b o q => ?_, r.subG, fun a o q => ?_, fun i s h => ?_, fun i j c1 c2 q h1 h2 h3 h4 => ?_⟩
  · exact r.subR b o (by rw [upd_ne (ne_of_none q hR)]; exact q)
  · exact r.dis a o (by rw [upd_ne (ne_of_none q hR)]; exact q)
  · rcases key i s h with ⟨h, e, _⟩ | ⟨rfl, e, _⟩
    · rw [e]
      have := r.slot i s h
      cases s with
      | un => trivial
      | dat d => exact this
      | scr ns => exact this
      | ref t => exact this
      | own c1 =>
        obtain ⟨q, hq, e', a1, a2, a3, a4⟩ := this
        exact ⟨q, hq, e', a1, a2, by rw [upd_ne (np i c1 q h e')] at a3; exact a3, a4⟩
    · rw [e]; exact ⟨p, ho, rfl, hp, gp, hR, hc⟩
  · rcases key i _ h1 with ⟨h1, e1, _⟩ | ⟨_, e1, l1⟩
    · rw [e1] at h3
      rcases key j _ h2 with ⟨h2, e2, _⟩ | ⟨_, e2, _⟩
      · rw [e2] at h4
        exact r.apart i j c1 c2 q h1 h2 h3 h4
      · rw [e2] at h4
        cases h4
        exact absurd rfl (np i c1 _ h1 h3)
    · rw [e1] at h3
      cases h3
      rcases key j _ h2 with ⟨h2, e2, _⟩ | ⟨_, e2, l2⟩
      · rw [e2] at h4
        exact absurd rfl (np j c2 _ h2 h4)
      · rw [l1, l2]
theorem Rep.popO {K : Fr} {R G H : Hp} {ρ : Ro} {σ : St} {p : Addr} {c : Ow} (r : Rep K R G H (ρ ++ [.own c]) (σ ++ [some (.ref p)])) : ∃ ho, Rep K (upd R p ho) G H ρ σ ∧ OwOk K G c ho ∧ R p = none := by
  have hl : ρ.length = σ.length := by have := r.len; simp at this; exact this
  have e0 : (ρ ++ [Sl.own c])[ρ.length]? = some (.own c) := by simp
  have e1 : (σ ++ [some (V.ref p)])[ρ.length]? = some (some (.ref p)) := by rw [hl]; simp
  obtain ⟨p', ho, e, hp, gp, rp, hc⟩ := r.slot _ _ e0
  rw [e1] at e
  cases e
  have lft : ∀ (i : Nat) (s : Sl), ρ[i]? = some s → (ρ ++ [Sl.own c])[i]? = some s ∧ (σ ++ [some (V.ref p)])[i]? = σ[i]? ∧ i < ρ.length := fun i s h => by
    have hi : i < ρ.length := (List.getElem?_eq_some_iff.mp h).1
    exact ⟨by rw [List.getElem?_append_left hi]; exact h, List.getElem?_append_left (by rw [← hl]; exact hi), hi⟩
  refine ⟨ho, ⟨hl, fun b o q => ?_, r.subG, fun a o q => ?_, fun i s h => ?_, fun i j c1 c2 q h1 h2 h3 h4 => ?_⟩, hc, rp⟩
  · by_cases hb : b = p
    · subst hb; rw [upd_same] at q; cases q; exact hp
    · rw [upd_ne hb] at q; exact r.subR b o q
  · by_cases hb : a = p
    · subst hb; exact gp
    · rw [upd_ne hb] at q; exact r.dis a o q
  · obtain ⟨h', e', hi⟩ := lft i s h
    have := r.slot i s h'
    rw [e'] at this
    cases s with
    | un => trivial
    | dat d => exact this
    | scr ns => exact this
    | ref t => exact this
    | own c1 =>
      obtain ⟨q, hq, e2, a1, a2, a3, a4⟩ := this
      have : q ≠ p := fun z => by
        subst z
        have := r.apart i ρ.length c1 c _ h' e0 (by rw [e']; exact e2) e1
        omega
      exact ⟨q, hq, e2, a1, a2, by rw [upd_ne this]; exact a3, a4⟩
  · obtain ⟨g1, f1, _⟩ := lft i _ h1
    obtain ⟨g2, f2, _⟩ := lft j _ h2
    exact r.apart i j c1 c2 q g1 g2 (by rw [f1]; exact h3) (by rw [f2]; exact h4)
/-- the last value goes to a slot -/
theorem Rep.moveO {K : Fr} {R G H : Hp} {ρ : Ro} {σ : St} {p : Addr} {c : Ow} (r : Rep K R G H (ρ ++ [.own c]) (σ ++ [some (.ref p)])) (i : Nat) : Rep K R G H (ρ.set i (.own c)) (σ.set i (some (.ref p))) := by
  obtain ⟨ho, r1, hc, hR⟩ := r.popO
  have np : ∀ (i : Nat) (c : Ow) (q : Addr), ρ[i]? = some (.own c) → σ[i]? = some (some (.ref q)) → q ≠ p := fun i c q h e z => by
    obtain ⟨q', ho', e', _, _, rq, _⟩ := r1.slot i _ h
    rw [e'] at e
    cases e
    rw [z, upd_same] at rq
    cases rq
  refine ⟨by simpa using r1.len, r.subR, r.subG, r.dis, fun j s h => ?_, fun j k c1 c2 q h1 h2 h3 h4 => ?_⟩
  · by_cases hj : i = j
    · subst hj
      rw [List.getElem?_set] at h
      simp only [if_true] at h
      split at h
      · rename_i hl
        cases h
        rw [List.getElem?_set_self (by rw [← r1.len]; exact hl)]
        exact ⟨p, ho, rfl, r1.subR _ _ upd_same, r1.dis _ _ upd_same, hR, hc⟩
      · cases h
    · rw [List.getElem?_set_ne hj] at h
      rw [List.getElem?_set_ne hj]
      have := r1.slot j s h
      cases s with
      | un => trivial
      | dat d => exact this
      | scr ns => exact this
      | ref t => exact this
      | own c1 =>
        obtain ⟨q, hq, e', a1, a2, a3, a4⟩ := this
        exact ⟨q, hq, e', a1, a2, by rw [upd_ne (np j c1 q h e')] at a3; exact a3, a4⟩
  · by_cases hj : i = j
    · by_cases hk : i = k
      · rw [← hj, ← hk]
      · subst hj
        have hl : i < σ.length := by
          have := (List.getElem?_eq_some_iff.mp h3).1
          simpa using this
        rw [List.getElem?_set_self hl] at h3
        cases h3
        rw [List.getElem?_set_ne hk] at h2 h4
        exact absurd rfl (np k c2 _ h2 h4)
    · by_cases hk : i = k
      · subst hk
        have hl : i < σ.length := by
          have := (List.getElem?_eq_some_iff.mp h4).1
          simpa using this
        rw [List.getElem?_set_self hl] at h4
        cases h4
        rw [List.getElem?_set_ne hj] at h1 h3
        exact absurd rfl (np j c1 _ h1 h3)
      · rw [List.getElem?_set_ne hj] at h1 h3
        rw [List.getElem?_set_ne hk] at h2 h4
        exact r1.apart j k c1 c2 q h1 h2 h3 h4
/-- an expression that makes an object of its own -/
def tMO (K : Fr) (m : M Ow) : TE := fun σ H Q => ∃ R G ρ c ρ', Rep K R G H ρ σ ∧ m ρ = some (c, ρ') ∧ ∀ G' H' p, Same G G' → Rep K R G' H' (ρ' ++ [.own c]) (σ ++ [some (.ref p)]) → Q (.ref p) H'
abbrev QO (X : Cx) (e : Expr) (m : M Ow) : Prop := PE X e (tMO X.K m)
/-- values that go to slots: data, or objects of one's own -/
def vOk (K : Fr) (R G : Hp) : Sl → V → Prop := fun _ _ => True
def tMX (K : Fr) (m : M (List Sl)) : TA := fun σ H Q => ∃ R G ρ ss ρ', Rep K R G H ρ σ ∧ m ρ = some (ss, ρ') ∧ ∀ G' H' vs, Same G G' → vs.length = ss.length → Rep K R G' H' (ρ' ++ ss) (σ ++ vs.map some) → Q vs H'
abbrev QX (X : Cx) (e : List Expr) (m : M (List Sl)) : Prop := PA X e (tMX X.K m)
theorem Rep.pushNew {K : Fr} {R G H : Hp} {ρ : Ro} {σ : St} {p : Addr} {c : Ow} {ho : HO} (r : Rep K R G H ρ σ) (hp : H p = none) (hc : OwOk K G c ho) : Rep K R G (upd H p ho) (ρ ++ [.own c]) (σ ++ [some (.ref p)]) := by
  have hR := r.subR.free hp
  have r1 := r.grow (Gr.junk (o := ho) r.subG hp)
  refine Rep.pushO (ho := ho) ⟨r1.len, fun b o q => ?_, r1.subG, fun a o q => ?_, fun i s h => ?_, r1.apart⟩ hc hR
  · by_cases hb : b = p
    · subst hb; rw [upd_same] at q ⊢; exact q
    · rw [upd_ne hb] at q; exact r1.subR b o q
  · by_cases hb : a = p
    · subst hb; exact r.subG.free hp
    · rw [upd_ne hb] at q; exact r1.dis a o q
  · have := r.slot i s h
    have t1 := r1.slot i s h
    cases s with
    | un => trivial
    | dat d => exact t1
    | scr ns => exact t1
    | ref t => exact t1
    | own c1 =>
      obtain ⟨q, hq, e', a1, a2, a3, a4⟩ := this
      have np : q ≠ p := ne_of_none a1 hp
      exact ⟨q, hq, e', by rw [upd_ne np]; exact a1, a2, by rw [upd_ne np]; exact a3, a4⟩

section
variable {X : Cx} {pos : Pos} {e : Expr} {es : List Expr}
def oLst (as : M (List D)) : M Ow := fun ρ => (as ρ).bind fun p => if p.1.length ≤ 1000000 then some (.lst p.1, p.2) else none
theorem qo_lst {m : M (List D)} (h : QA X es m) : QO X (.List es pos) (oLst m) := by
  refine PE.imp (pe_lst h) fun σ H Q h => ?_
  obtain ⟨R, G, ρ, c, ρ', rp, e, k⟩ := h
  unfold oLst at e
  rw [Option.bind_eq_some_iff] at e
  obtain ⟨⟨ds, ρ1⟩, h1, e⟩ := e
  split at e
  · rename_i hl
    cases e
    refine ⟨R, G, ρ, ds, _, rp, h1, fun G1 H1 vs s1 r1 d1 => ⟨by rw [d1.length]; exact size_of hl, fun p hp => ?_⟩⟩
    exact k G1 _ p s1 (r1.pushNew hp (ho := .lst vs) d1)
  · cases e
/-- a list that an expression makes anew is to be owned: from its reading -/
def xNil : M (List Sl) := fun ρ => some ([], ρ)
def xDat (a : M D) (r : M (List Sl)) : M (List Sl) := fun ρ => (a ρ).bind fun p => (r p.2).map fun q => (.dat p.1 :: q.1, q.2)
def xOwn (a : M Ow) (r : M (List Sl)) : M (List Sl) := fun ρ => (a ρ).bind fun p => (r p.2).map fun q => (.own p.1 :: q.1, q.2)
theorem qx_nil : QX X [] xNil := PA.imp pa_nil fun σ H Q h => by
  obtain ⟨R, G, ρ, d, ρ', rp, e, k⟩ := h
  cases e
  exact k G H [] (.refl _) rfl (by simpa using rp)
end
/-- appended values: a middle one is put ahead -/
theorem Rep.swapEnd {K : Fr} {R G H : Hp} {ρ : Ro} {σ : St} {ss : List Sl} {vs : List V} {s : Sl} {v : V} (hl : ρ.length = σ.length) (hl2 : ss.length = vs.length) (r : Rep K R G H ((ρ ++ ss) ++ [s]) ((σ ++ vs.map some) ++ [some v])) : Rep K R G H (ρ ++ (s :: ss)) (σ ++ (v :: vs).map some) := by
  -- slot i of the new one is slot f i of the old one
  have hn : (ρ ++ ss).length = (σ ++ vs.map some).length := by simp [hl, hl2]
  let f : Nat → Nat := fun i => if i < ρ.length then i else if i = ρ.length then (ρ ++ ss).length else i - 1
  have get : ∀ {α : Type} (a b : List α) (x : α) (i : Nat), a.length = ρ.length → b.length = ss.length → (a ++ (x :: b))[i]? = ((a ++ b) ++ [x])[f i]? ∨ (a ++ (x :: b))[i]? = none := fun a b x i ha hb => by
    by_cases h1 : i < ρ.length
    · left
      show _ = ((a ++ b) ++ [x])[if i < ρ.length then i else _]?
      rw [if_pos h1, List.getElem?_append_left (by omega), List.append_assoc, List.getElem?_append_left (by omega)]
    · by_cases h2 : i = ρ.length
      · left
        show _ = ((a ++ b) ++ [x])[if i < ρ.length then i else if i = ρ.length then (ρ ++ ss).length else _]?
        rw [if_neg h1, if_pos h2, List.getElem?_append_right (by omega)]
        have : (ρ ++ ss).length = (a ++ b).length := by simp [ha, hb]
        rw [this]
        have e : i - a.length = 0 := by omega
        rw [e]
        simp
      · by_cases h3 : i < ρ.length + ss.length + 1
        · left
          show _ = ((a ++ b) ++ [x])[if i < ρ.length then i else if i = ρ.length then (ρ ++ ss).length else i - 1]?
          rw [if_neg h1, if_neg h2, List.getElem?_append_right (by omega)]
          obtain ⟨k, hk⟩ : ∃ k, i - a.length = k + 1 := ⟨i - a.length - 1, by omega⟩
          rw [hk, List.getElem?_cons_succ, List.getElem?_append_left (by simp; omega), List.getElem?_append_right (by omega)]
          congr 1
          omega
        · right
          rw [List.getElem?_eq_none]
          simp; omega
  have inj : ∀ i j, f i = f j → i < ρ.length + ss.length + 1 → j < ρ.length + ss.length + 1 → i = j := fun i j h h1 h2 => by
    have e : ∀ i, f i = if i < ρ.length then i else if i = ρ.length then (ρ ++ ss).length else i - 1 := fun _ => rfl
    rw [e, e] at h
    have hL : (ρ ++ ss).length = ρ.length + ss.length := by simp
    rw [hL] at h
    split at h <;> split at h <;> (try split at h) <;> (try split at h) <;> omega
  have g1 := fun i => get ρ ss s i rfl rfl
  have g2 := fun i => get σ (vs.map some) (some v) i hl.symm (by simp [hl2])
  have key : ∀ (i : Nat) (t : Sl), (ρ ++ (s :: ss))[i]? = some t → ((ρ ++ ss) ++ [s])[f i]? = some t ∧ (σ ++ (v :: vs).map some)[i]? = ((σ ++ vs.map some) ++ [some v])[f i]? ∧ i < ρ.length + ss.length + 1 := fun i t h => by
    have hi : i < ρ.length + ss.length + 1 := by
      have := (List.getElem?_eq_some_iff.mp h).1
      simp at this
      omega
    refine ⟨?_, ?_, hi⟩
    · rcases g1 i with e | e
      · rw [← e]; exact h
      · rw [e] at h; cases h
    · rcases g2 i with e | e
      · exact e
      · rw [List.getElem?_eq_none_iff] at e
        simp [← hl, ← hl2] at e
        omega
  refine ⟨by simp [hl, hl2], r.subR, r.subG, r.dis, fun i t h => ?_, fun i j c c' p h1 h2 h3 h4 => ?_⟩
  · obtain ⟨a, b, _⟩ := key i t h
    rw [b]; exact r.slot _ _ a
  · obtain ⟨a1, b1, l1⟩ := key i _ h1
    obtain ⟨a2, b2, l2⟩ := key j _ h2
    rw [b1] at h3; rw [b2] at h4
    exact inj i j (r.apart _ _ c c' p a1 a2 h3 h4) l1 l2
section
variable {X : Cx} {pos : Pos} {e : Expr} {es : List Expr}
theorem qx_dat {m : M D} {n : M (List Sl)} (ha : QE X e m) (hr : QX X es n) (hs : starEach (e :: es) X.env = (false, eval e X.env) :: starEach es X.env := by rfl) : QX X (e :: es) (xDat m n) := by
  refine PA.imp (pa_cons ha hr hs) fun σ H Q h => ?_
  obtain ⟨R, G, ρ, ss, ρ', rp, e, k⟩ := h
  unfold xDat at e
  rw [Option.bind_eq_some_iff] at e
  obtain ⟨⟨x, ρ1⟩, h1, e⟩ := e
  rw [Option.map_eq_some_iff] at e
  obtain ⟨⟨y, ρ2⟩, h2, e⟩ := e
  cases e
  refine ⟨R, G, ρ, x, ρ1, rp, h1, fun G1 H1 v1 s1 r1 d1 => ?_⟩
  refine ⟨R, G1, ρ1, y, _, r1, h2, fun G2 H2 v2 s2 l2 r2 => ?_⟩
  have hl := r2.len
  have hlen : ρ2.length = σ.length := by simp [l2] at hl; exact hl
  refine k G2 H2 (v1 :: v2) (s1.trans s2) (by simp [l2]) ?_
  exact Rep.swapEnd hlen l2.symm (r2.pushD (Dq_mono s2 d1))
theorem qx_own {m : M Ow} {n : M (List Sl)} (ha : QO X e m) (hr : QX X es n) (hs : starEach (e :: es) X.env = (false, eval e X.env) :: starEach es X.env := by rfl) : QX X (e :: es) (xOwn m n) := by
  refine PA.imp (pa_cons ha hr hs) fun σ H Q h => ?_
  obtain ⟨R, G, ρ, ss, ρ', rp, e, k⟩ := h
  unfold xOwn at e
  rw [Option.bind_eq_some_iff] at e
  obtain ⟨⟨x, ρ1⟩, h1, e⟩ := e
  rw [Option.map_eq_some_iff] at e
  obtain ⟨⟨y, ρ2⟩, h2, e⟩ := e
  cases e
  refine ⟨R, G, ρ, x, ρ1, rp, h1, fun G1 H1 p s1 r1 => ?_⟩
  obtain ⟨ho, r1', hc, hR⟩ := r1.popO
  refine ⟨upd R p ho, G1, ρ1, y, _, r1', h2, fun G2 H2 v2 s2 l2 r2 => ?_⟩
  have hl := r2.len
  have hlen : ρ2.length = σ.length := by simp [l2] at hl; exact hl
  refine k G2 H2 (.ref p :: v2) (s1.trans s2) (by simp [l2]) ?_
  exact Rep.swapEnd hlen l2.symm (r2.pushO (OwOk_mono s2 hc) hR)

/-! ### assignments -/
theorem qs_asg {tg : Expr} {m : M D} {vs : List Nat} {g : D → Ro → Option Ro} (he : QE X e m) (hg : QG X vs tg g) (hs : swapsWithSole [tg] e pos.line X.env = pure false := by rfl) (hw : swappedStores [tg] e X.env = pure none := by rfl)
    (h1 : (assignEach [tg] X.env).map (·.2) = [assign tg X.env] := by rfl) : QS X vs (.Assign [tg] e pos) (sAsg m g) := by
  refine PS.imp (ps_asg he hg hs hw h1) fun E σ H h => ?_
  obtain ⟨R, G, ρ, f, ρ', rp, e, k⟩ := h
  unfold sAsg at e
  rw [Option.bind_eq_some_iff] at e
  obtain ⟨⟨x, ρ1⟩, h1, e⟩ := e
  rw [Option.map_eq_some_iff] at e
  obtain ⟨ρ2, h2, e⟩ := e
  cases e
  refine ⟨R, G, ρ, x, ρ1, rp, h1, fun G1 H1 v1 s1 r1 d1 => ?_⟩
  exact ⟨R, G1, ρ1, x, _, r1, d1, h2, fun σ' r' _ fr => k G1 H1 σ' s1 r' fr⟩
theorem qs_set (i : Nat) {x : Str} {m : M D} {pos' : Pos} (hN : X.N.Nodup) (he : QE X e m) (hi : X.N[i]? = some x := by rfl) (hx : Loc X.env.scope x := by first | exact Or.inl rfl | exact Or.inr rfl) (hs : swapsWith e (some (.Name x pos')) pos.line X.env = pure false := by rfl) (hf : X.fn x = true ∨ X.env.scope.names.lookup x = some .local := by first | exact .inl rfl | exact .inr rfl | assumption) :
    QS X [i] (.Assign [.Name x pos'] e pos) (sAsg m (gSet i)) := by
  refine PS.imp (ps_set hN hi hx he hs hf) fun E σ H h => ?_
  obtain ⟨R, G, ρ, f, ρ', rp, e, k⟩ := h
  unfold sAsg at e
  rw [Option.bind_eq_some_iff] at e
  obtain ⟨⟨x, ρ1⟩, h1, e⟩ := e
  cases e
  exact ⟨R, G, ρ, x, ρ1, rp, h1, fun G1 H1 v1 s1 r1 d1 => k G1 H1 _ s1 (r1.setD d1) (fun j hj => List.getElem?_set_ne fun z => hj (by simp [z]))⟩
/-- x = an object of one's own -/
def sOwn (i : Nat) (a : M Ow) : MS := fun ρ => (a ρ).map fun p => (.nx, p.2.set i (.own p.1))
theorem qs_own (i : Nat) {x : Str} {m : M Ow} {pos' : Pos} (hN : X.N.Nodup) (he : QO X e m) (hi : X.N[i]? = some x := by rfl) (hx : Loc X.env.scope x := by first | exact Or.inl rfl | exact Or.inr rfl) (hs : swapsWith e (some (.Name x pos')) pos.line X.env = pure false := by rfl) (hf : X.fn x = true ∨ X.env.scope.names.lookup x = some .local := by first | exact .inl rfl | exact .inr rfl | assumption) :
    QS X [i] (.Assign [.Name x pos'] e pos) (sOwn i m) := by
  refine PS.imp (ps_set hN hi hx he hs hf) fun E σ H h => ?_
  obtain ⟨R, G, ρ, f, ρ', rp, e, k⟩ := h
  unfold sOwn at e
  rw [Option.map_eq_some_iff] at e
  obtain ⟨⟨x, ρ1⟩, h1, e⟩ := e
  cases e
  exact ⟨R, G, ρ, x, ρ1, rp, h1, fun G1 H1 p s1 r1 => k G1 H1 _ s1 (r1.moveO i) (fun j hj => List.getElem?_set_ne fun z => hj (by simp [z]))⟩
/-- the last two values go to slots -/
theorem Rep.move {K : Fr} {R G H : Hp} {ρ : Ro} {σ : St} {s : Sl} {v : V} (hl : ρ.length = σ.length) (hs : ∀ ns, s ≠ .scr ns) (r : Rep K R G H (ρ ++ [s]) (σ ++ [some v])) (i : Nat) : Rep K R G H (ρ.set i s) (σ.set i (some v)) := by
  have e0 : (ρ ++ [s])[ρ.length]? = some s := by simp
  have e1 : (σ ++ [some v])[ρ.length]? = some (some v) := by rw [hl]; simp
  have base : Rep K R G H ρ σ := by
    refine ⟨hl, r.subR, r.subG, r.dis, fun j t h => ?_, fun j k c c' p h1 h2 h3 h4 => ?_⟩
    · have hj : j < ρ.length := (List.getElem?_eq_some_iff.mp h).1
      have := r.slot j t (by rw [List.getElem?_append_left hj]; exact h)
      rw [List.getElem?_append_left (by rw [← hl]; exact hj)] at this
      exact this
    · have hj : j < ρ.length := (List.getElem?_eq_some_iff.mp h1).1
      have hk : k < ρ.length := (List.getElem?_eq_some_iff.mp h2).1
      exact r.apart j k c c' p (by rw [List.getElem?_append_left hj]; exact h1) (by rw [List.getElem?_append_left hk]; exact h2) (by rw [List.getElem?_append_left (by rw [← hl]; exact hj)]; exact h3) (by rw [List.getElem?_append_left (by rw [← hl]; exact hk)]; exact h4)
  have so := r.slot _ _ e0
  rw [e1] at so
  cases s with
  | un => exact base.forget i _
  | dat d =>
    obtain ⟨v', e, x⟩ := so
    cases e
    exact base.setD x
  | scr ns => exact absurd rfl (hs ns)
  | ref t =>
    exact base.setT so
  | own c =>
    obtain ⟨p, ho, e, _⟩ := so
    cases e
    exact r.moveO i
def noScr : Sl → Bool
  | .scr _ => false
  | _ => true
def sPar2 (i j : Nat) (as : M (List Sl)) : MS := fun ρ => (as ρ).bind fun p => match p.1 with
  | [x, y] => if noScr x && noScr y && decide (j < p.2.length) then some (.nx, (p.2.set i x).set j y) else none
  | _ => none
theorem noScr_ne {s : Sl} (h : noScr s = true) : ∀ ns, s ≠ .scr ns := fun ns e => by subst e; cases h
theorem qs_par {i j : Nat} {x y : Str} {a b : Expr} {m : M (List Sl)} {px py pt : Pos} {kt k2 pt2} (hN : X.N.Nodup) (ha : QX X [a, b] m) (hc : X.calm = true := by rfl) (hi : X.N[i]? = some x := by rfl) (hj : X.N[j]? = some y := by rfl) (hij : i ≠ j := by decide)
    (hx : X.env.scope.names.lookup x = some .local := by rfl) (hy : X.env.scope.names.lookup y = some .local := by rfl)
    (hw : swappedStores [.Tuple [.Name x px, .Name y py] kt pt] (.Tuple [a, b] k2 pt2) X.env = pure (some [x, y]) := by rfl)
    (hs : swapsWithSole [.Tuple [.Name x px, .Name y py] kt pt] (.Tuple [a, b] k2 pt2) pos.line X.env = pure false := by rfl) :
    QS X [i, j] (.Assign [.Tuple [.Name x px, .Name y py] kt pt] (.Tuple [a, b] k2 pt2) pos) (sPar2 i j m) := by
  refine PS.imp (ps_par hc hN hi hj hij hx hy ha hw hs) fun E σ H h => ?_
  obtain ⟨R, G, ρ, f, ρ', rp, e, k⟩ := h
  unfold sPar2 at e
  rw [Option.bind_eq_some_iff] at e
  obtain ⟨⟨ss, ρ1⟩, h1, e⟩ := e
  refine ⟨R, G, ρ, ss, ρ1, rp, h1, fun G1 H1 vs s1 l1 r1 => ?_⟩
  match ss, vs, l1, e with
  | [s, t], [v, w], _, e =>
    simp only at e
    split at e
    · rename_i hb
      cases e
      rw [Bool.and_eq_true, Bool.and_eq_true] at hb
      have hjl : j < ρ1.length := of_decide_eq_true hb.2
      have hl := r1.len
      have hlen : ρ1.length = σ.length := by simp at hl; exact hl
      refine ⟨v, w, rfl, k G1 H1 _ s1 ?_ (fun l hl => by rw [List.getElem?_set_ne fun z => hl (by simp [z]), List.getElem?_set_ne fun z => hl (by simp [z])])⟩
      have r2 : Rep X.K R G1 H1 ((ρ1 ++ [s]) ++ [t]) ((σ ++ [some v]) ++ [some w]) := by simpa using r1
      have r3 := Rep.move (by simp [hlen]) (noScr_ne hb.1.2) r2 j
      rw [List.set_append_left _ _ hjl, List.set_append_left _ _ (by rw [← hlen]; exact hjl)] at r3
      have r4 := Rep.move (by simp [hlen]) (noScr_ne hb.1.1) r3 i
      rw [List.set_comm _ _ hij, List.set_comm _ _ hij]
      exact r4
    · cases e
  | [], _, _, e => cases e
  | [_], _, _, e => cases e
  | _ :: _ :: _ :: _, _, _, e => cases e
end
end QL
set_option Elab.async false
set_option linter.all false
set_option maxRecDepth 100000
set_option maxHeartbeats 1000000
namespace QL
open PySem PySem.Spec PyProof.Rows L2

/-! ### targets of several names -/
/-- several targets -/
def tMGs (K : Fr) (vs : List Nat) (fs : List (D → Ro → Option Ro)) : TGs := fun us σ H Q => ∃ R G ρ ds ρ', Rep K R G H ρ σ ∧ DqAll K G us ds ∧ gTupF fs ds ρ = some ρ' ∧ ∀ σ', Rep K R G H ρ' σ' → σ'.length = σ.length → (∀ j : Nat, j ∉ vs → σ'[j]? = σ[j]?) → Q σ' H
theorem PGs.imp {X : Cx} {e : List Expr} {t t' : TGs} (h : PGs X e t) (w : ∀ v σ H Q, t' v σ H Q → t v σ H Q) : PGs X e t' := ⟨fun pins s σ H v u Q I r q => h.run pins s σ H v u Q I r (w v σ H Q q)⟩
abbrev QGs (X : Cx) (vs : List Nat) (e : List Expr) (fs : List (D → Ro → Option Ro)) : Prop := PGs X e (tMGs X.K vs fs)
section
variable {X : Cx} {pos : Pos} {e : Expr} {es : List Expr}
theorem qgs_nil : QGs X [] [] [] := PGs.imp pgs_nil fun v σ H Q h => by
  obtain ⟨R, G, ρ, ds, ρ', rp, dd, e, k⟩ := h
  cases dd with
  | nil =>
    cases e
    exact ⟨rfl, k σ rp rfl fun _ _ => rfl⟩
  | cons _ _ => cases e
theorem qgs_cons {vs ws : List Nat} {f : D → Ro → Option Ro} {fs : List (D → Ro → Option Ro)} (h1 : QG X vs e f) (h2 : QGs X ws es fs) (hs : (assignEach (e :: es) X.env).map (·.2) = assign e X.env :: (assignEach es X.env).map (·.2) := by rfl) : QGs X (vs ++ ws) (e :: es) (f :: fs) := by
  refine PGs.imp (pgs_cons h1 h2 hs) fun us σ H Q h => ?_
  obtain ⟨R, G, ρ, ds, ρ', rp, dd, e, k⟩ := h
  cases dd with
  | nil => cases e
  | cons d1 d2 =>
    unfold gTupF at e
    rw [Option.bind_eq_some_iff] at e
    obtain ⟨ρ1, h1, e⟩ := e
    refine ⟨_, _, rfl, R, G, ρ, _, ρ1, rp, d1, h1, fun σ1 r1 l1 j1 => ?_⟩
    refine ⟨R, G, ρ1, _, ρ', r1, d2, e, fun σ2 r2 l2 j2 => ?_⟩
    refine k σ2 r2 (l2.trans l1) fun j hj => ?_
    rw [j2 j fun z => hj (List.mem_append_right _ z), j1 j fun z => hj (List.mem_append_left _ z)]
theorem qg_tup {vs : List Nat} {fs : List (D → Ro → Option Ro)} {k : Nat} (h : QGs X vs es fs) (hc : X.calm = true := by rfl)
    (hn : (assignEach es X.env).length = fs.length := by rfl) (hst : (assignEach es X.env).findIdx? (·.1) = none := by rfl) : QG X vs (.Tuple es k pos) (gTup fs) := by
  refine PG.imp (pg_tup hc h hn hst) fun v σ H Q h => ?_
  obtain ⟨R, G, ρ, d, ρ', rp, dd, e, k⟩ := h
  unfold gTup at e
  rw [Option.bind_eq_some_iff] at e
  obtain ⟨ds, h1, e⟩ := e
  cases d <;> cases h1
  cases dd with
  | tup hs ha =>
    rename_i a xs
    refine ⟨a, xs, rfl, SqT_mono rp.subG hs, ?_, R, G, ρ, _, ρ', rp, ha, e, k⟩
    rw [ha.length]
    have : ∀ (fs : List (D → Ro → Option Ro)) (ds : List D) (ρ ρ' : Ro), gTupF fs ds ρ = some ρ' → ds.length = fs.length := by
      intro fs
      induction fs with
      | nil => intro ds ρ ρ' h; cases ds <;> first | rfl | cases h
      | cons f fs ih =>
        intro ds ρ ρ' h
        cases ds with
        | nil => cases h
        | cons d ds =>
          unfold gTupF at h
          rw [Option.bind_eq_some_iff] at h
          obtain ⟨ρ1, _, h⟩ := h
          simp [ih ds ρ1 ρ' h]
    exact this fs _ _ _ e
end

/-! ### walks -/
theorem DqAll.idx {K : Fr} {G : Hp} {vs : List V} {ds : List D} {i : Nat} (h : DqAll K G vs ds) {d : D} {v : V} (hd : ds[i]? = some d) (hv : vs[i]? = some v) : Dq K G v d := by
  obtain ⟨v', e, x⟩ := h.get hd
  rw [hv] at e
  cases e
  exact x
theorem walk_list {K : Fr} {G : Hp} {a : Addr} {ds : List D} (h : Dq K G (.ref a) (.list ds)) : WalkD K (Itl K a) G ds := by
  cases h with
  | lst ha hs =>
    rename_i xs
    have sq : ∀ G' H, Same G G' → Same G' H → SqL K H a xs := fun G' H s1 s2 => SqL.of (s2 _ _ (s1 _ _ ha))
    refine ⟨fun i G' H s1 s2 hi => ⟨xs, xs[i]'(by rw [hs.length]; exact hi), sq G' H s1 s2, by simp⟩, fun i G' H s1 s2 hi => ⟨xs, sq G' H s1 s2, by rw [hs.length]; exact hi⟩, fun i G' H v H' d s1 s2 hd hy => ?_⟩
    obtain ⟨rfl, hx⟩ := hy
    exact ⟨G', Gr.refl s2, Dq_mono s1 (hs.idx hd (hx xs (sq G' _ s1 s2)))⟩
theorem walk_tup {K : Fr} {G : Hp} {a : Addr} {ds : List D} (h : Dq K G (.ref a) (.tuple ds)) : WalkD K (Itt K a) G ds := by
  cases h with
  | tup ha hs =>
    rename_i xs
    have sq : ∀ G' H, Same G G' → Same G' H → SqT K H a xs := fun G' H s1 s2 => SqT_mono s2 (SqT_mono s1 ha)
    refine ⟨fun i G' H s1 s2 hi => ⟨xs, xs[i]'(by rw [hs.length]; exact hi), sq G' H s1 s2, by simp⟩, fun i G' H s1 s2 hi => ⟨xs, sq G' H s1 s2, by rw [hs.length]; exact hi⟩, fun i G' H v H' d s1 s2 hd hy => ?_⟩
    obtain ⟨rfl, hx⟩ := hy
    exact ⟨G', Gr.refl s2, Dq_mono s1 (hs.idx hd (hx xs (sq G' _ s1 s2)))⟩
def intsD (lo : Int) (n : Nat) : List D := (List.range n).map fun (i : Nat) => .int (lo + i)
theorem walk_range {K : Fr} {G : Hp} {lo : Int} {n : Nat} : WalkD K (Itr lo n) G (intsD lo n) := by
  have hl : (intsD lo n).length = n := by simp [intsD]
  refine ⟨fun i G' H s1 s2 hi => by rw [hl] at hi; exact hi, fun i G' H s1 s2 hi => by rw [hl] at hi; exact hi, fun i G' H v H' d s1 s2 hd hy => ?_⟩
  obtain ⟨rfl, rfl⟩ := hy
  refine ⟨G', Gr.refl s2, ?_⟩
  have hi : i < n := by
    have := (List.getElem?_eq_some_iff.mp hd).1
    rw [hl] at this
    exact this
  have : d = .int (lo + i) := by
    simp [intsD, hi] at hd
    exact hd.symm
  subst this
  exact .int _
def asSeq : D → Option (List D)
  | .list ds => some ds
  | .tuple ds => some ds
  | _ => none
def iSeq (m : M D) : M (List D) := fun ρ => (m ρ).bind fun p => (asSeq p.1).map fun xs => (xs, p.2)
def rng1 : List D → Option (List D)
  | [.int j] => if j.natAbs < 2 ^ 62 then some (intsD 0 j.toNat) else none
  | _ => none
def rng2 : List D → Option (List D)
  | [.int i, .int j] => if i.natAbs < 2 ^ 62 ∧ j.natAbs < 2 ^ 62 then some (intsD i (j - i).toNat) else none
  | _ => none
def iApp (f : List D → Option (List D)) (m : M (List D)) : M (List D) := fun ρ => (m ρ).bind fun p => (f p.1).map fun xs => (xs, p.2)
section
variable {X : Cx} {pos p : Pos} {tg e : Expr} {es : List Expr}
theorem PI.or {t t' : TI} (h : PI X tg e t) (h' : PI X tg e t') : PI X tg e (fun σ H Q => t σ H Q ∨ t' σ H Q) := ⟨fun pins s σ H Q I q => by
  rcases q with q | q
  · exact h.run pins s σ H Q I q
  · exact h'.run pins s σ H Q I q⟩
theorem qi_seq {m : M D} (he : QE X e m) : QI X tg e (iSeq m) := by
  refine PI.imp (PI.or (pi_list he) (pi_tup he)) fun σ H Q h => ?_
  obtain ⟨R, G, ρ, ds, ρ', rp, e, k⟩ := h
  unfold iSeq at e
  rw [Option.bind_eq_some_iff] at e
  obtain ⟨⟨x, ρ1⟩, h1, e⟩ := e
  rw [Option.map_eq_some_iff] at e
  obtain ⟨xs, h2, e⟩ := e
  cases e
  cases x <;> cases h2
  · refine .inl ⟨R, G, ρ, _, _, rp, h1, fun G1 H1 v1 s1 r1 d1 => ?_⟩
    cases id d1 with
    | lst ha hs => exact ⟨_, rfl, ⟨_, SqL.of (r1.subG _ _ ha)⟩, k G1 H1 _ s1 r1 (walk_list d1)⟩
  · refine .inr ⟨R, G, ρ, _, _, rp, h1, fun G1 H1 v1 s1 r1 d1 => ?_⟩
    cases id d1 with
    | tup ha hs => exact ⟨_, rfl, ⟨_, SqT_mono r1.subG ha⟩, k G1 H1 _ s1 r1 (walk_tup d1)⟩
theorem iApp_some {f : List D → Option (List D)} {m : M (List D)} {ρ ρ' : Ro} {xs : List D} (h : iApp f m ρ = some (xs, ρ')) : ∃ ds, m ρ = some (ds, ρ') ∧ f ds = some xs := by
  unfold iApp at h
  rw [Option.bind_eq_some_iff] at h
  obtain ⟨⟨x, ρ1⟩, h1, h⟩ := h
  rw [Option.map_eq_some_iff] at h
  obtain ⟨xs, h2, h⟩ := h
  cases h
  exact ⟨x, h1, h2⟩
theorem qi_range1 {a : Expr} {m : M (List D)} (hm : X.mg "range" = none) (ha : QA X [a] m) (hg : Gl X "range" := by rfl) (hs : starEach [a] X.env = [(false, eval a X.env)] := by rfl) : QI X tg (.Call (.Name "range" p) [a] [] pos) (iApp rng1 m) := by
  refine PI.imp (pi_range1 hg hm ha hs) fun σ H Q h => ?_
  obtain ⟨R, G, ρ, ds, ρ', rp, e, k⟩ := h
  obtain ⟨xs, h1, h2⟩ := iApp_some e
  refine ⟨R, G, ρ, _, _, rp, h1, fun G1 H1 v1 s1 r1 d1 => ?_⟩
  unfold rng1 at h2
  split at h2
  · split at h2
    · rename_i hb
      cases h2
      cases d1 with
      | cons a b =>
        cases a
        cases b
        exact ⟨_, rfl, by omega, by omega, k G1 H1 _ s1 r1 walk_range⟩
    · cases h2
  · cases h2
theorem qi_range2 {a b : Expr} {m : M (List D)} (hm : X.mg "range" = none) (ha : QA X [a, b] m) (hg : Gl X "range" := by rfl) (hs : starEach [a, b] X.env = [(false, eval a X.env), (false, eval b X.env)] := by rfl) (hs2 : starEach [b] X.env = [(false, eval b X.env)] := by rfl) : QI X tg (.Call (.Name "range" p) [a, b] [] pos) (iApp rng2 m) := by
  refine PI.imp (pi_range2 hg hm ha hs hs2) fun σ H Q h => ?_
  obtain ⟨R, G, ρ, ds, ρ', rp, e, k⟩ := h
  obtain ⟨xs, h1, h2⟩ := iApp_some e
  refine ⟨R, G, ρ, _, _, rp, h1, fun G1 H1 v1 s1 r1 d1 => ?_⟩
  unfold rng2 at h2
  split at h2
  · split at h2
    · rename_i hb
      cases h2
      cases d1 with
      | cons a b =>
        cases a
        cases b with
        | cons a b =>
          cases a
          cases b
          exact ⟨_, _, rfl, ⟨by omega, by omega, by omega, by omega⟩, k G1 H1 _ s1 r1 walk_range⟩
    · cases h2
  · cases h2

/-! ### for -/
theorem qs_for {body : List Stmt} {vs : List Nat} {m : M (List D)} {g : D → Ro → Option Ro} {b : MS} (hi : QI X tg e m) (hg : QG X vs tg g) {W : List Nat} (hb : QSs X W body b) (hp : PassesOwn (model X.prog X.w) X.A X.env X.xe := by exact PassesOwn.never) (hc : X.calm = true := by rfl)
    (hs : ∀ x, foldedSetIterable e X.env x = pure x := by intro _; rfl) : QS X (vs ++ W) (.For tg e body [] pos) (sFor m g b) := by
  refine PS.imp (ps_for hp hc hi hg hb hs) fun E σ H h => ?_
  obtain ⟨R, G, ρ, f, ρ', rp, e, k⟩ := h
  unfold sFor at e
  rw [Option.bind_eq_some_iff] at e
  obtain ⟨⟨xs, ρ1⟩, h1, e⟩ := e
  refine ⟨R, G, ρ, xs, ρ1, rp, h1, fun G1 H1 J s1 r1 wk => ?_⟩
  refine ⟨fun i n σ2 H2 => n = xs.length - i ∧ i ≤ xs.length ∧ Frm (vs ++ W) σ σ2 ∧ ∃ G2 ρ2, Same G1 G2 ∧ Rep X.K R G2 H2 ρ2 σ2 ∧ forM g b (xs.drop i) ρ2 = some (f, ρ'), ⟨xs.length, rfl, Nat.zero_le _, .refl _ _, G1, ρ1, .refl _, r1, e⟩, ?_⟩
  rintro i n σ2 H2 ⟨rfl, hi, fr2, G2, ρ2, s2, r2, e2⟩
  by_cases hlt : i < xs.length
  · right
    have ed : xs.drop i = xs[i] :: xs.drop (i + 1) := List.drop_eq_getElem_cons hlt
    rw [ed] at e2
    unfold forM at e2
    rw [Option.bind_eq_some_iff] at e2
    obtain ⟨ρ3, h3, e2⟩ := e2
    rw [Option.bind_eq_some_iff] at e2
    obtain ⟨⟨f4, ρ4⟩, h4, e2⟩ := e2
    refine ⟨wk.go i G2 H2 s2 r2.subG hlt, fun σ5 H5 => Frm (vs ++ W) σ σ5 ∧ ∃ G5 ρ5, Same G1 G5 ∧ Rep X.K R G5 H5 ρ5 σ5 ∧ forM g b (xs.drop (i + 1)) ρ5 = some (f, ρ'), fun σ5 H5 ⟨fr5, G5, ρ5, s5, r5, e5⟩ => ⟨xs.length - (i + 1), by omega, rfl, hlt, fr5, G5, ρ5, s5, r5, e5⟩, fun x H' hy => ?_⟩
    obtain ⟨G3, g3, d3⟩ := wk.yld i G2 H2 x H' _ s2 r2.subG (List.getElem?_eq_getElem hlt) hy
    refine ⟨R, G3, ρ2, _, ρ3, r2.grow g3, d3, h3, fun σ6 r6 _ j6 => ?_⟩
    refine ⟨R, G3, ρ3, f4, ρ4, r6, h4, ?_⟩
    have s3 : Same G1 G3 := s2.trans g3.gg
    have frm : ∀ σ7, Frm W σ6 σ7 → Frm (vs ++ W) σ σ7 := fun σ7 z => by
      have q : Frm (vs ++ W) σ2 σ7 := Frm.trans j6 z
      have q2 := fr2.trans q
      exact q2.mono fun j hj => by
        simp only [List.mem_append] at hj ⊢
        rcases hj with (h | h) | (h | h)
        · exact .inl h
        · exact .inr h
        · exact .inl h
        · exact .inr h
    cases f4 with
    | nx => exact fun G7 H7 σ7 s7 r7 f7 => ⟨frm σ7 f7, G7, ρ4, s3.trans s7, r7, e2⟩
    | ct => exact fun G7 H7 σ7 s7 r7 f7 => ⟨frm σ7 f7, G7, ρ4, s3.trans s7, r7, e2⟩
    | bk =>
      cases e2
      exact fun G7 H7 σ7 s7 r7 f7 => k G7 H7 σ7 ((s1.trans s3).trans s7) r7 (frm σ7 f7)
    | rt d =>
      cases e2
      exact fun G7 H7 σ7 v s7 r7 f7 => k G7 H7 σ7 v ((s1.trans s3).trans s7) r7 (frm σ7 f7)
  · left
    have ei : i = xs.length := by omega
    subst ei
    rw [List.drop_length] at e2
    cases e2
    exact ⟨wk.stop _ G2 H2 s2 r2.subG (Nat.le_refl _), k G2 H2 σ2 (s1.trans s2) r2 fr2⟩
theorem qs_while {c : Expr} {body : List Stmt} {m : M Bool} {b : MS} {W : List Nat} (fuel : Ro → Nat) (hc : QT X c m) (hb : QSs X W body b) (hp : PassesOwn (model X.prog X.w) X.A X.env X.xe := by exact PassesOwn.never) : QS X W (.While c body [] pos) (sWhile fuel m b) := by
  refine PS.imp (ps_while hp hc hb) fun E σ H h => ?_
  obtain ⟨R, G, ρ, f, ρ', rp, e, k⟩ := h
  unfold sWhile at e
  refine ⟨fun n σ2 H2 => Frm W σ σ2 ∧ ∃ G2 ρ2, Same G G2 ∧ Rep X.K R G2 H2 ρ2 σ2 ∧ whileM m b n ρ2 = some (f, ρ'), ⟨fuel ρ, .refl _ _, G, ρ, .refl _, rp, e⟩, ?_⟩
  rintro n σ2 H2 ⟨fr2, G2, ρ2, s2, r2, e2⟩
  cases n with
  | zero => cases e2
  | succ n =>
    unfold whileM at e2
    rw [Option.bind_eq_some_iff] at e2
    obtain ⟨⟨q, ρ3⟩, h3, e2⟩ := e2
    refine ⟨R, G2, ρ2, q, ρ3, r2, h3, fun G3 H3 s3 r3 => ?_⟩
    cases q with
    | true =>
      rw [if_pos rfl] at e2 ⊢
      rw [Option.bind_eq_some_iff] at e2
      obtain ⟨⟨f4, ρ4⟩, h4, e2⟩ := e2
      have frm : ∀ σ7, Frm W σ2 σ7 → Frm W σ σ7 := fun σ7 z => (fr2.trans z).mono fun j hj => by simpa using hj
      refine ⟨fun σ5 H5 => Frm W σ σ5 ∧ ∃ G5 ρ5, Same G G5 ∧ Rep X.K R G5 H5 ρ5 σ5 ∧ whileM m b n ρ5 = some (f, ρ'), fun σ5 H5 z => ⟨n, Nat.lt_succ_self _, z⟩, R, G3, ρ3, f4, ρ4, r3, h4, ?_⟩
      have s4 : Same G G3 := s2.trans s3
      cases f4 with
      | nx => exact fun G7 H7 σ7 s7 r7 f7 => ⟨frm σ7 f7, G7, ρ4, s4.trans s7, r7, e2⟩
      | ct => exact fun G7 H7 σ7 s7 r7 f7 => ⟨frm σ7 f7, G7, ρ4, s4.trans s7, r7, e2⟩
      | bk =>
        cases e2
        exact fun G7 H7 σ7 s7 r7 f7 => k G7 H7 σ7 (s4.trans s7) r7 (frm σ7 f7)
      | rt d =>
        cases e2
        exact fun G7 H7 σ7 v s7 r7 f7 => k G7 H7 σ7 v (s4.trans s7) r7 (frm σ7 f7)
    | false =>
      rw [if_neg Bool.false_ne_true] at e2 ⊢
      cases e2
      exact k G3 H3 σ2 (s2.trans s3) r3 fr2
end

/-! ### comprehensions -/
def wipeR (ρ : Ro) : List Nat → Ro
  | [] => ρ
  | v :: vs => (wipeR ρ vs).set v .un
theorem wipeR_length (ρ : Ro) : ∀ vs, (wipeR ρ vs).length = ρ.length
  | [] => rfl
  | v :: vs => by unfold wipeR; rw [List.length_set, wipeR_length ρ vs]
theorem Rep.wipe {K : Fr} {R G H : Hp} {ρ : Ro} {σ : St} (r : Rep K R G H ρ σ) : ∀ vs, Rep K R G H (wipeR ρ vs) (L2.wipe σ vs)
  | [] => r
  | v :: vs => by
    unfold wipeR L2.wipe
    exact (Rep.wipe r vs).forget v none
theorem wipe_get (σ : St) : ∀ (vs : List Nat) (j : Nat), (L2.wipe σ vs)[j]? = if j ∈ vs ∧ j < σ.length then some none else σ[j]?
  | [], j => by simp [L2.wipe]
  | v :: vs, j => by
    unfold L2.wipe
    rw [List.getElem?_set, wipe_length, wipe_get σ vs j]
    by_cases h : v = j
    · subst h
      by_cases hl : v < σ.length
      · simp [hl]
      · simp [hl]
    · have : j ≠ v := fun e => h e.symm
      simp [h, this]
theorem wipe_same {σ σ2 : St} {vs : List Nat} (hl : σ2.length = (L2.wipe σ vs).length) (h : ∀ j : Nat, j ∉ vs → σ2[j]? = (L2.wipe σ vs)[j]?) : L2.wipe σ2 vs = L2.wipe σ vs := by
  refine List.ext_getElem? fun j => ?_
  rw [wipe_length] at hl
  rw [wipe_get, wipe_get, hl]
  by_cases hj : j ∈ vs ∧ j < σ.length
  · rw [if_pos hj, if_pos hj]
  · rw [if_neg hj, if_neg hj]
    by_cases hm : j ∈ vs
    · have : ¬ j < σ.length := fun z => hj ⟨hm, z⟩
      rw [List.getElem?_eq_none (by omega), List.getElem?_eq_none (by omega)]
    · rw [h j hm, wipe_get, if_neg hj]
theorem wipe_wipe {σ : St} {vs : List Nat} : ∀ j : Nat, j ∉ vs → (L2.wipe σ vs)[j]? = σ[j]? := fun j hj => by
  rw [wipe_get, if_neg fun z => hj z.1]
/-- what the def's own slots are behind a comprehension: those of its names as they were, where they were data -/
def keepD : Sl → Sl
  | .dat d => .dat d
  | _ => .un
def backR (ρ0 : Ro) (ρ : Ro) : List Nat → Ro
  | [] => ρ
  | v :: vs => (backR ρ0 ρ vs).set v (match ρ0[v]? with | some s => keepD s | none => .un)
theorem backR_rep0 {K : Fr} {R G' H' : Hp} {ρ0 ρ : Ro} {σ : St} (r0 : ∀ (v : Nat) (d : D), ρ0[v]? = some (.dat d) → ∃ x, σ[v]? = some (some x) ∧ Dq K G' x d) : ∀ (vs : List Nat) (ws : List Nat), (∀ v ∈ vs, v ∈ ws) → Rep K R G' H' ρ (L2.wipe σ ws) → Rep K R G' H' (backR ρ0 (wipeR ρ ws) vs) σ := by
  intro vs ws hws r
  -- first: the wiped knowledge holds of σ itself
  have base : Rep K R G' H' (wipeR ρ ws) σ := by
    have hr := r
    have key : ∀ (i : Nat) (s : Sl), (wipeR ρ ws)[i]? = some s → s = .un ∨ (ρ[i]? = some s ∧ (L2.wipe σ ws)[i]? = σ[i]?) := by
      intro i s h
      by_cases hi : i ∈ ws
      · left
        clear r0 r hr hws
        induction ws with
        | nil => cases hi
        | cons v vs ih =>
          unfold wipeR at h
          by_cases hv : v = i
          · subst hv
            rw [List.getElem?_set] at h
            simp only [if_true] at h
            split at h
            · exact (Option.some.inj h).symm
            · cases h
          · rw [List.getElem?_set_ne hv] at h
            exact ih h ((List.mem_cons.mp hi).resolve_left fun e => hv e.symm)
      · right
        refine ⟨?_, wipe_wipe i hi⟩
        clear r0 r hr hws
        induction ws with
        | nil => exact h
        | cons v vs ih =>
          unfold wipeR at h
          rw [List.getElem?_set_ne fun e => hi (by simp [e])] at h
          exact ih h fun z => hi (List.mem_cons_of_mem _ z)
    refine ⟨by rw [wipeR_length, r.len, wipe_length], r.subR, r.subG, r.dis, fun i t h => ?_, fun i j c c' p h1 h2 h3 h4 => ?_⟩
    · rcases key i t h with rfl | ⟨h, e⟩
      · trivial
      · rw [← e]; exact r.slot i t h
    · rcases key i _ h1 with z | ⟨h1, e1⟩
      · cases z
      · rcases key j _ h2 with z | ⟨h2, e2⟩
        · cases z
        · exact r.apart i j c c' p h1 h2 (by rw [e1]; exact h3) (by rw [e2]; exact h4)
  clear r
  induction vs with
  | nil => exact base
  | cons v vs ih =>
    have b := ih fun z hz => hws z (List.mem_cons_of_mem _ hz)
    unfold backR
    cases q : ρ0[v]? with
    | none => exact b.forgetR v
    | some t =>
      cases t with
      | un => exact b.forgetR v
      | scr ns => exact b.forgetR v
      | ref t => exact b.forgetR v
      | own c => exact b.forgetR v
      | dat d =>
        obtain ⟨x, e, dx⟩ := r0 v _ q
        have := b.setD (i := v) dx
        have es : σ.set v (some x) = σ := by
          refine List.ext_getElem? fun j => ?_
          rw [List.getElem?_set]
          split
          · rename_i hj
            subst hj
            split
            · exact e.symm
            · rename_i hl
              rw [List.getElem?_eq_none (by omega)]
          · rfl
        rw [es] at this
        exact this
/-- the turns of a comprehension -/
def lcM (vs : List Nat) (g : D → Ro → Option Ro) (t : M Bool) (m : M D) : List D → Ro → List D → Option (List D × Ro)
  | [], ρ, acc => some (acc, ρ)
  | x :: xs, ρ, acc => (g x ρ).bind fun ρ1 => (t ρ1).bind fun q => if q.1 = true then (m q.2).bind fun p => if acc.length < 1000000 then lcM vs g t m xs (wipeR p.2 vs) (acc ++ [p.1]) else none else lcM vs g t m xs (wipeR q.2 vs) acc
def oLc (vs : List Nat) (it : M (List D)) (g : D → Ro → Option Ro) (t : M Bool) (m : M D) : M (List D) := fun ρ => (it ρ).bind fun p => (lcM vs g t m p.1 (wipeR p.2 vs) []).map fun q => (q.1, backR p.2 (wipeR q.2 vs) vs)
def eLc (vs : List Nat) (it : M (List D)) (g : D → Ro → Option Ro) (t : M Bool) (m : M D) : M D := fun ρ => (oLc vs it g t m ρ).map fun q => (.list q.1, q.2)
def wLc (vs : List Nat) (it : M (List D)) (g : D → Ro → Option Ro) (t : M Bool) (m : M D) : M Ow := fun ρ => (oLc vs it g t m ρ).map fun q => (.lst q.1, q.2)
def cTrue : M Bool := fun ρ => some (true, ρ)
abbrev QTs (X : Cx) (es : List Expr) (m : M Bool) : Prop := PTs X es (tMT X.K m)
theorem PTs.imp {X : Cx} {e : List Expr} {t t' : TT} (h : PTs X e t) (w : ∀ σ H Q, t' σ H Q → t σ H Q) : PTs X e t' := ⟨fun pins s σ H Q I q => h.run pins s σ H Q I (w σ H Q q)⟩
theorem qts_nil {X : Cx} : QTs X [] cTrue := PTs.imp pts_nil fun σ H Q h => by
  obtain ⟨R, G, ρ, b, ρ', rp, e, k⟩ := h
  cases e
  exact k G H (.refl _) rp
theorem qts_one {X : Cx} {e : Expr} {m : M Bool} (h : QT X e m) : QTs X [e] m := pts_one h
theorem Rep.dropLast {K : Fr} {R G H : Hp} {ρ : Ro} {σ : St} {s : Sl} {v : Option V} (r : Rep K R G H (ρ ++ [s]) (σ ++ [v])) : Rep K R G H ρ σ := by
  have hl : ρ.length = σ.length := by have := r.len; simp at this; exact this
  refine ⟨hl, r.subR, r.subG, r.dis, fun j t h => ?_, fun j k c c' p h1 h2 h3 h4 => ?_⟩
  · have hj : j < ρ.length := (List.getElem?_eq_some_iff.mp h).1
    have := r.slot j t (by rw [List.getElem?_append_left hj]; exact h)
    rw [List.getElem?_append_left (by rw [← hl]; exact hj)] at this
    exact this
  · have hj : j < ρ.length := (List.getElem?_eq_some_iff.mp h1).1
    have hk : k < ρ.length := (List.getElem?_eq_some_iff.mp h2).1
    exact r.apart j k c c' p (by rw [List.getElem?_append_left hj]; exact h1) (by rw [List.getElem?_append_left hk]; exact h2) (by rw [List.getElem?_append_left (by rw [← hl]; exact hj)]; exact h3) (by rw [List.getElem?_append_left (by rw [← hl]; exact hk)]; exact h4)
/-- an own list that stands last becomes data -/
theorem Rep.freezeLast {K : Fr} {R G H : Hp} {ρ : Ro} {σ : St} {p : Addr} {ds : List D} (r : Rep K R G H (ρ ++ [.own (.lst ds)]) (σ ++ [some (.ref p)])) : ∃ G', Same G G' ∧ Rep K R G' H ρ σ ∧ Dq K G' (.ref p) (.list ds) := by
  have hl : ρ.length = σ.length := by have := r.len; simp at this; exact this
  obtain ⟨q, vs, e, gg, r', x⟩ := r.freeze (i := ρ.length) (ds := ds) (by simp)
  have e1 : (σ ++ [some (V.ref p)])[ρ.length]? = some (some (.ref p)) := by rw [hl]; simp
  rw [e1] at e
  cases e
  have e2 : (ρ ++ [Sl.own (.lst ds)]).set ρ.length (.dat (.list ds)) = ρ ++ [.dat (.list ds)] := by simp
  rw [e2] at r'
  exact ⟨_, gg, r'.dropLast, x⟩
theorem tLc_core {K : Fr} {vs : List Nat} {it : M (List D)} {g : D → Ro → Option Ro} {t : M Bool} {m : M D} {σ : St} {H : Hp} {Q : VK} {R G : Hp} {ρ : Ro} {out : List D} {ρ' : Ro} (rp : Rep K R G H ρ σ) (e : oLc vs it g t m ρ = some (out, ρ'))
    (k : ∀ G' H' p, Same G G' → Rep K R G' H' (ρ' ++ [.own (.lst out)]) (σ ++ [some (.ref p)]) → Q (.ref p) H') : tLc (tMI K it) (tMG K vs g) (tMT K t) (tM K m) vs σ H Q := by
  unfold oLc at e
  rw [Option.bind_eq_some_iff] at e
  obtain ⟨⟨xs, ρ1⟩, h1, e⟩ := e
  rw [Option.map_eq_some_iff] at e
  obtain ⟨⟨out', ρ2⟩, h2, e⟩ := e
  obtain ⟨rfl, rfl⟩ : out' = out ∧ backR ρ1 (wipeR ρ2 vs) vs = ρ' := by cases e; exact ⟨rfl, rfl⟩
  clear e
  refine ⟨R, G, ρ, xs, ρ1, rp, h1, fun G1 H1 J s1 r1 wk Dd hD => ?_⟩
  have hR : R Dd = none := r1.subR.free hD
  -- in the turns the new list is others'
  refine ⟨fun i n H2 => n = xs.length - i ∧ i ≤ xs.length ∧ ∃ G2 ρ2' acc vacc, Same G1 G2 ∧ Rep K (upd R Dd (.lst vacc)) G2 H2 ρ2' (L2.wipe σ vs) ∧ DqAll K G2 vacc acc ∧ lcM vs g t m (xs.drop i) ρ2' acc = some (out', ρ2), ⟨xs.length, rfl, Nat.zero_le _, G1, wipeR ρ1 vs, [], [], .refl _, ?_, .nil, h2⟩, ?_⟩
  · obtain ⟨ho, r3, hc, _⟩ := ((r1.wipe vs).pushNew (c := .lst []) (ho := .lst []) hD .nil).popO
    have : ho = .lst [] := by
      have a := r3.subR Dd ho upd_same
      rw [upd_same] at a
      exact (Option.some.inj a).symm
    subst this
    exact r3
  · rintro i n H2 ⟨rfl, hi, G2, ρ3, acc, vacc, s2, r2, da, e2⟩
    by_cases hlt : i < xs.length
    · right
      have ed : xs.drop i = xs[i] :: xs.drop (i + 1) := List.drop_eq_getElem_cons hlt
      rw [ed] at e2
      unfold lcM at e2
      rw [Option.bind_eq_some_iff] at e2
      obtain ⟨ρ4, h4, e2⟩ := e2
      rw [Option.bind_eq_some_iff] at e2
      obtain ⟨⟨q, ρ5⟩, h5, e2⟩ := e2
      refine ⟨wk.go i G2 H2 s2 r2.subG hlt, fun H5 => ∃ G5 ρ5 acc vacc, Same G1 G5 ∧ Rep K (upd R Dd (.lst vacc)) G5 H5 ρ5 (L2.wipe σ vs) ∧ DqAll K G5 vacc acc ∧ lcM vs g t m (xs.drop (i + 1)) ρ5 acc = some (out', ρ2), fun H5 ⟨G5, ρ5, acc, vacc, s5, r5, d5, e5⟩ => ⟨xs.length - (i + 1), by omega, rfl, hlt, G5, ρ5, acc, vacc, s5, r5, d5, e5⟩, fun x H' hy => ?_⟩
      obtain ⟨G3, g3, d3⟩ := wk.yld i G2 H2 x H' _ s2 r2.subG (List.getElem?_eq_getElem hlt) hy
      refine ⟨_, G3, ρ3, _, ρ4, r2.grow g3, d3, h4, fun σ6 r6 l6 j6 => ⟨wipe_same l6 j6, ?_⟩⟩
      have hw := wipe_same l6 j6
      refine ⟨_, G3, ρ4, q, ρ5, r6, h5, fun G7 H7 s7 r7 => ?_⟩
      have sA : Same G1 G7 := (s2.trans g3.gg).trans s7
      cases q with
      | true =>
        rw [if_pos rfl] at e2
        refine iteT ?_
        rw [Option.bind_eq_some_iff] at e2
        obtain ⟨⟨y, ρ8⟩, h8, e2⟩ := e2
        refine ⟨_, G7, ρ5, y, ρ8, r7, h8, fun G9 H9 v9 s9 r9 d9 => ?_⟩
        split at e2
        · rename_i hlen
          have dacc := DqAll_mono ((g3.gg.trans s7).trans s9) da
          refine ⟨vacc, r9.subR Dd _ upd_same, ?_, G9, wipeR ρ8 vs, acc ++ [y], vacc ++ [v9], sA.trans s9, ?_, dacc.append (.cons d9 .nil), e2⟩
          · rw [da.length]
            exact Nat.lt_of_lt_of_le hlen (by decide)
          · -- the list is written: by way of an own slot
            have w9 := r9.wipe vs
            rw [hw] at w9
            have p1 := w9.pushO (c := .lst acc) dacc hR
            have hl : (wipeR ρ8 vs).length = (L2.wipe σ vs).length := w9.len
            have p2 := p1.write (i := (wipeR ρ8 vs).length) (c := .lst acc) (c' := .lst (acc ++ [y])) (p := Dd) (ho := .lst (vacc ++ [v9])) (by simp) (by rw [hl]; simp) (dacc.append (.cons d9 .nil))
            have e3 : (wipeR ρ8 vs ++ [Sl.own (.lst acc)]).set (wipeR ρ8 vs).length (.own (.lst (acc ++ [y]))) = wipeR ρ8 vs ++ [.own (.lst (acc ++ [y]))] := by simp
            rw [e3] at p2
            obtain ⟨ho, r3, hc, _⟩ := p2.popO
            have : ho = .lst (vacc ++ [v9]) := by
              have a := r3.subR Dd ho upd_same
              rw [upd_same] at a
              exact (Option.some.inj a).symm
            subst this
            exact r3
        · cases e2
      | false =>
        rw [if_neg Bool.false_ne_true] at e2
        refine iteF ?_
        have w9 := r7.wipe vs
        rw [hw] at w9
        exact ⟨G7, wipeR ρ5 vs, acc, vacc, sA, w9, DqAll_mono (g3.gg.trans s7) da, e2⟩
    · left
      have ei : i = xs.length := by omega
      subst ei
      rw [List.drop_length] at e2
      cases e2
      refine ⟨wk.stop _ G2 H2 s2 r2.subG (Nat.le_refl _), k G2 H2 Dd (s1.trans s2) ?_⟩
      refine Rep.pushO (ho := .lst vacc) ?_ da hR
      -- the def's slots again; the new list is others' still
      have r1' : Rep K (upd R Dd (.lst [])) G1 (upd H1 Dd (.lst [])) ρ1 σ := by
        obtain ⟨ho, r3, hc, _⟩ := (r1.pushNew (c := .lst []) (ho := .lst []) hD .nil).popO
        have : ho = .lst [] := by
          have a := r3.subR Dd ho upd_same
          rw [upd_same] at a
          exact (Option.some.inj a).symm
        subst this
        exact r3
      exact backR_rep0 (fun v d hv => by
        obtain ⟨x, ex, dx⟩ := r1.slot v _ hv
        exact ⟨x, ex, Dq_mono s2 dx⟩) vs vs (fun _ z => z) r2
theorem tLc_of {K : Fr} {vs : List Nat} {it : M (List D)} {g : D → Ro → Option Ro} {t : M Bool} {m : M D} {σ : St} {H : Hp} {Q : VK} (h : tM K (eLc vs it g t m) σ H Q) : tLc (tMI K it) (tMG K vs g) (tMT K t) (tM K m) vs σ H Q := by
  obtain ⟨R, G, ρ, d, ρ', rp, e, k⟩ := h
  unfold eLc at e
  rw [Option.map_eq_some_iff] at e
  obtain ⟨⟨out, ρ1⟩, h1, e⟩ := e
  cases e
  refine tLc_core rp h1 fun G' H' p s r => ?_
  obtain ⟨G2, s2, r2, d2⟩ := r.freezeLast
  exact k G2 H' _ (s.trans s2) r2 d2
theorem tLcO_of {K : Fr} {vs : List Nat} {it : M (List D)} {g : D → Ro → Option Ro} {t : M Bool} {m : M D} {σ : St} {H : Hp} {Q : VK} (h : tMO K (wLc vs it g t m) σ H Q) : tLc (tMI K it) (tMG K vs g) (tMT K t) (tM K m) vs σ H Q := by
  obtain ⟨R, G, ρ, d, ρ', rp, e, k⟩ := h
  unfold wLc at e
  rw [Option.map_eq_some_iff] at e
  obtain ⟨⟨out, ρ1⟩, h1, e⟩ := e
  cases e
  exact tLc_core rp h1 k
section
variable {X : Cx} {elt tg iter : Expr} {ifs : List Expr} {scope : Scope} {pos py spos : Pos} {it : M (List D)} {g : D → Ro → Option Ro} {t : M Bool} {m : M D}
theorem qe_lc (own : List (Str × Nat)) (hN : X.N.Nodup) (hi : QI X tg iter it) (ok : BlkOk X.N X.env.scope scope own)
    (hg : ∀ (s : Shared) (H : Hp) (C : Addr) (cl : List (Str × Addr)) (fp : List Addr), QG (X.blk s H scope (compEnvC scope cl C X.env) fp) (own.map (·.2)) tg g) (ht : ∀ (s : Shared) (H : Hp) (C : Addr) (cl : List (Str × Addr)) (fp : List Addr), QTs (X.blk s H scope (compEnvC scope cl C X.env) fp) ifs t)
    (he : ∀ (s : Shared) (H : Hp) (C : Addr) (cl : List (Str × Addr)) (fp : List Addr), QE (X.blk s H scope (compEnvC scope cl C X.env) fp) elt m) (hc : X.calm = true := by rfl) (hs : ∀ x, foldedSetIterable iter X.env x = pure x := by intro _; rfl) :
    QE X (.ListComp elt [⟨tg, iter, ifs, 0⟩] scope pos) (eLc (own.map (·.2)) it g t m) := PE.imp (pe_lc hc hN hi ok hg ht he hs) fun _ _ _ h => tLc_of h
theorem qo_lc (own : List (Str × Nat)) (hN : X.N.Nodup) (hi : QI X tg iter it) (ok : BlkOk X.N X.env.scope scope own)
    (hg : ∀ (s : Shared) (H : Hp) (C : Addr) (cl : List (Str × Addr)) (fp : List Addr), QG (X.blk s H scope (compEnvC scope cl C X.env) fp) (own.map (·.2)) tg g) (ht : ∀ (s : Shared) (H : Hp) (C : Addr) (cl : List (Str × Addr)) (fp : List Addr), QTs (X.blk s H scope (compEnvC scope cl C X.env) fp) ifs t)
    (he : ∀ (s : Shared) (H : Hp) (C : Addr) (cl : List (Str × Addr)) (fp : List Addr), QE (X.blk s H scope (compEnvC scope cl C X.env) fp) elt m) (hc : X.calm = true := by rfl) (hs : ∀ x, foldedSetIterable iter X.env x = pure x := by intro _; rfl) :
    QO X (.ListComp elt [⟨tg, iter, ifs, 0⟩] scope pos) (wLc (own.map (·.2)) it g t m) := PE.imp (pe_lc hc hN hi ok hg ht he hs) fun _ _ _ h => tLcO_of h
theorem qs_setLc (i : Nat) {y : Str} (own : List (Str × Nat)) (hN : X.N.Nodup) (hi : QI X tg iter it) (ok : BlkOk X.N X.env.scope scope own)
    (hg : ∀ (s : Shared) (H : Hp) (C : Addr) (cl : List (Str × Addr)) (fp : List Addr), QG (X.blk s H scope (compEnvC scope cl C X.env) fp) (own.map (·.2)) tg g) (ht : ∀ (s : Shared) (H : Hp) (C : Addr) (cl : List (Str × Addr)) (fp : List Addr), QTs (X.blk s H scope (compEnvC scope cl C X.env) fp) ifs t)
    (he : ∀ (s : Shared) (H : Hp) (C : Addr) (cl : List (Str × Addr)) (fp : List Addr), QE (X.blk s H scope (compEnvC scope cl C X.env) fp) elt m)
    (hsw : swapsWith (.ListComp elt [⟨tg, iter, ifs, 0⟩] scope pos) (some (.Name y py)) spos.line X.env = pure true := by exact sw_true rfl rfl rfl (by decide +kernel)) (hc : X.calm = true := by rfl) (hy : X.N[i]? = some y := by rfl) (hyl : X.env.scope.names.lookup y = some .local := by rfl) (hs : ∀ x, foldedSetIterable iter X.env x = pure x := by intro _; rfl) :
    QS X [i] (.Assign [.Name y py] (.ListComp elt [⟨tg, iter, ifs, 0⟩] scope pos) spos) (sAsg (eLc (own.map (·.2)) it g t m) (gSet i)) := by
  refine PS.imp (ps_setLc (g := tMG X.K (own.map (·.2)) g) (tt := tMT X.K t) (te := tM X.K m) hc hN hy hyl hsw hi ok hg ht he hs) fun E σ H h => ?_
  obtain ⟨R, G, ρ, f, ρ', rp, e, k⟩ := h
  unfold sAsg at e
  rw [Option.bind_eq_some_iff] at e
  obtain ⟨⟨x, ρ1⟩, h1, e⟩ := e
  cases e
  exact tLc_of ⟨R, G, ρ, x, ρ1, rp, h1, fun G1 H1 v1 s1 r1 d1 => k G1 H1 _ s1 (r1.setD d1) (fun j hj => List.getElem?_set_ne fun z => hj (by simp [z]))⟩
theorem qs_ownLc (i : Nat) {y : Str} (own : List (Str × Nat)) (hN : X.N.Nodup) (hi : QI X tg iter it) (ok : BlkOk X.N X.env.scope scope own)
    (hg : ∀ (s : Shared) (H : Hp) (C : Addr) (cl : List (Str × Addr)) (fp : List Addr), QG (X.blk s H scope (compEnvC scope cl C X.env) fp) (own.map (·.2)) tg g) (ht : ∀ (s : Shared) (H : Hp) (C : Addr) (cl : List (Str × Addr)) (fp : List Addr), QTs (X.blk s H scope (compEnvC scope cl C X.env) fp) ifs t)
    (he : ∀ (s : Shared) (H : Hp) (C : Addr) (cl : List (Str × Addr)) (fp : List Addr), QE (X.blk s H scope (compEnvC scope cl C X.env) fp) elt m)
    (hsw : swapsWith (.ListComp elt [⟨tg, iter, ifs, 0⟩] scope pos) (some (.Name y py)) spos.line X.env = pure true := by exact sw_true rfl rfl rfl (by decide +kernel)) (hc : X.calm = true := by rfl) (hy : X.N[i]? = some y := by rfl) (hyl : X.env.scope.names.lookup y = some .local := by rfl) (hs : ∀ x, foldedSetIterable iter X.env x = pure x := by intro _; rfl) :
    QS X [i] (.Assign [.Name y py] (.ListComp elt [⟨tg, iter, ifs, 0⟩] scope pos) spos) (sOwn i (wLc (own.map (·.2)) it g t m)) := by
  refine PS.imp (ps_setLc (g := tMG X.K (own.map (·.2)) g) (tt := tMT X.K t) (te := tM X.K m) hc hN hy hyl hsw hi ok hg ht he hs) fun E σ H h => ?_
  obtain ⟨R, G, ρ, f, ρ', rp, e, k⟩ := h
  unfold sOwn at e
  rw [Option.map_eq_some_iff] at e
  obtain ⟨⟨x, ρ1⟩, h1, e⟩ := e
  cases e
  exact tLcO_of (K := X.K) ⟨R, G, ρ, x, ρ1, rp, h1, fun G1 H1 p s1 r1 => k G1 H1 _ s1 (r1.moveO i) (fun j hj => List.getElem?_set_ne fun z => hj (by simp [z]))⟩
end
end QL
set_option Elab.async false
set_option linter.all false
set_option maxRecDepth 100000
set_option maxHeartbeats 1000000
namespace QL
open PySem PySem.Spec PyProof.Rows L2

/-! ### operations on data -/
instance (a b : Int) : Decidable (IntMulOk a b) := by unfold IntMulOk; exact inferInstance
def dAdd : D → D → Option D
  | .int a, .int b => some (.int (a + b))
  | .list a, .list b => if a.length + b.length ≤ 1000000 then some (.list (a ++ b)) else none
  | .tuple a, .tuple b => if a ≠ [] ∧ b ≠ [] ∧ a.length + b.length ≤ 1000000 then some (.tuple (a ++ b)) else none
  | .str a, .str b => if a.length + b.length ≤ 1000000 then some (.str (a ++ b)) else none
  | _, _ => none
def dSub : D → D → Option D
  | .int a, .int b => some (.int (a - b))
  | _, _ => none
def dMul : D → D → Option D
  | .int a, .int b => if IntMulOk a b then some (.int (a * b)) else none
  | .list a, .int k => if 0 ≤ k ∧ k ≤ 1000 ∧ a.length ≤ 1000 then some (.list (List.replicate k.toNat a).flatten) else none
  | .tuple a, .int k => if a ≠ [] ∧ 2 ≤ k ∧ k ≤ 1000 ∧ a.length ≤ 1000 then some (.tuple (List.replicate k.toNat a).flatten) else none
  | _, _ => none
def dMod : D → D → Option D
  | .int a, .int b => if b ≠ 0 then some (.int (a.fmod b)) else none
  | _, _ => none
def dDiv : D → D → Option D
  | .int a, .int b => if b ≠ 0 ∧ Builtin.divisionGoesByPylong a b = false then some (.int (a.fdiv b)) else none
  | _, _ => none
def dPow : D → D → Option D
  | .int a, .int b => if 0 ≤ b ∧ b ≤ 1000000 ∧ a.natAbs < 2 ^ 64 then some (.int (a ^ b.toNat)) else none
  | _, _ => none
def dLt : D → D → Option D
  | .int a, .int b => some (.bool (decide (a < b)))
  | _, _ => none
def dLe : D → D → Option D
  | .int a, .int b => some (.bool (decide (a ≤ b)))
  | _, _ => none
def dGt : D → D → Option D
  | .int a, .int b => some (.bool (decide (b < a)))
  | _, _ => none
def dGe : D → D → Option D
  | .int a, .int b => some (.bool (decide (b ≤ a)))
  | _, _ => none
def dEq (x y : D) : Option D := if SeqAt.shaped x = true ∧ SeqAt.shaped y = true then some (.bool (PyData.eqv x y)) else none
def dNe (x y : D) : Option D := if SeqAt.shaped x = true ∧ SeqAt.shaped y = true then some (.bool (!PyData.eqv x y)) else none
def dIs : D → D → Option D
  | .bool a, .bool b => some (.bool (decide (a = b)))
  | .none, .none => some (.bool true)
  | .bool _, .none => some (.bool false)
  | .int _, .none => some (.bool false)
  | .str _, .none => some (.bool false)
  | .list _, .none => some (.bool false)
  | .tuple _, .none => some (.bool false)
  | _, _ => none
def dIsNot (x y : D) : Option D := (dIs x y).bind fun d => match d with
  | .bool b => some (.bool (!b))
  | _ => none
def dIx : D → D → Option D
  | .list a, .int i => atI a i
  | .tuple a, .int i => atI a i
  | _, _ => none
def flatD : D → Bool
  | .none => true
  | .bool _ => true
  | .int _ => true
  | .str _ => true
  | _ => false
def toV : D → V
  | .none => .non
  | .bool b => .bl b
  | .int i => .int i
  | .str s => .str s
  | _ => .non
def dIn (x y : D) : Option D := (asSeq y).bind fun ys => if flatD x && ys.all flatD then some (.bool (inV (toV x) (ys.map toV))) else none
def dNotIn (x y : D) : Option D := (asSeq y).bind fun ys => if flatD x && ys.all flatD then some (.bool (!inV (toV x) (ys.map toV))) else none

section
variable {K : Fr}
theorem opD_int {C : Int → Int → Prop} {g : Int → Int → V} {f : D → D → Option D} (h : ∀ dx dy d, f dx dy = some d → ∃ i j, dx = .int i ∧ dy = .int j ∧ C i j ∧ ∀ G, Dq K G (g i j) d) : OpD K (rI C g) f := by
  intro G H x y dx dy d Q s hx hy e k
  obtain ⟨i, j, rfl, rfl, c, hd⟩ := h dx dy d e
  cases hx
  cases hy
  exact ⟨i, j, rfl, rfl, c, k G H _ (Gr.refl s) (hd G)⟩
theorem opD_int0 {g : Int → Int → V} {f : D → D → Option D} (h : ∀ dx dy d, f dx dy = some d → ∃ i j, dx = .int i ∧ dy = .int j ∧ ∀ G, Dq K G (g i j) d) : OpD K (rI0 g) f := by
  intro G H x y dx dy d Q s hx hy e k
  obtain ⟨i, j, rfl, rfl, hd⟩ := h dx dy d e
  cases hx
  cases hy
  exact ⟨i, j, rfl, rfl, k G H _ (Gr.refl s) (hd G)⟩
theorem d_sub : OpD K (rI0 fun i j => .int (i - j)) dSub := opD_int0 fun dx dy d e => by
  unfold dSub at e; split at e
  · cases e; exact ⟨_, _, rfl, rfl, fun _ => .int _⟩
  · cases e
theorem d_mod : OpD K (rI (fun _ j => j ≠ 0) fun i j => .int (i.fmod j)) dMod := opD_int fun dx dy d e => by
  unfold dMod at e; split at e
  · split at e
    · rename_i h; cases e; exact ⟨_, _, rfl, rfl, h, fun _ => .int _⟩
    · cases e
  · cases e
theorem d_pow : OpD K (rI CPow fun i j => .int (i ^ j.toNat)) dPow := opD_int fun dx dy d e => by
  unfold dPow at e; split at e
  · split at e
    · rename_i h; cases e; exact ⟨_, _, rfl, rfl, h, fun _ => .int _⟩
    · cases e
  · cases e
def CDivX (i j : Int) : Prop := j ≠ 0 ∧ Builtin.divisionGoesByPylong i j = false
theorem op_fdivX {X : Cx} : OpR X (binaryOp .FloorDiv) (rI CDivX fun i j => .int (i.fdiv j)) := opI fun i j _ _ _ _ _ hc q => floordiv_int hc.1 q (.inl hc.2)
theorem d_div : OpD K (rI CDivX fun i j => .int (i.fdiv j)) dDiv := opD_int fun dx dy d e => by
  unfold dDiv at e; split at e
  · split at e
    · rename_i h; cases e; exact ⟨_, _, rfl, rfl, h, fun _ => .int _⟩
    · cases e
  · cases e
theorem d_lt : OpD K (rI0 fun i j => .bl (decide (i < j))) dLt := opD_int0 fun dx dy d e => by
  unfold dLt at e; split at e
  · cases e; exact ⟨_, _, rfl, rfl, fun _ => .bl _⟩
  · cases e
theorem d_le : OpD K (rI0 fun i j => .bl (decide (i ≤ j))) dLe := opD_int0 fun dx dy d e => by
  unfold dLe at e; split at e
  · cases e; exact ⟨_, _, rfl, rfl, fun _ => .bl _⟩
  · cases e
theorem d_gt : OpD K (rI0 fun i j => .bl (decide (j < i))) dGt := opD_int0 fun dx dy d e => by
  unfold dGt at e; split at e
  · cases e; exact ⟨_, _, rfl, rfl, fun _ => .bl _⟩
  · cases e
theorem d_ge : OpD K (rI0 fun i j => .bl (decide (j ≤ i))) dGe := opD_int0 fun dx dy d e => by
  unfold dGe at e; split at e
  · cases e; exact ⟨_, _, rfl, rfl, fun _ => .bl _⟩
  · cases e
theorem d_eq : OpD K (rEqD K) dEq := by
  intro G H x y dx dy d Q s hx hy e k
  unfold dEq at e
  split at e
  · rename_i h
    cases e
    exact ⟨dx, dy, Dq.dp s hx (shaped_lay h.1), Dq.dp s hy (shaped_lay h.2), h.1, h.2, k G H _ (Gr.refl s) (.bl _)⟩
  · cases e
theorem d_ne : OpD K (rNeD K) dNe := by
  intro G H x y dx dy d Q s hx hy e k
  unfold dNe at e
  split at e
  · rename_i h
    cases e
    exact ⟨dx, dy, Dq.dp s hx (shaped_lay h.1), Dq.dp s hy (shaped_lay h.2), h.1, h.2, k G H _ (Gr.refl s) (.bl _)⟩
  · cases e
/-- + -/
abbrev rAddA (K : Fr) : R2 := fun x y H Q => (rI0 fun i j => .int (i + j)) x y H Q ∨ (rCat x y H Q ∨ (rCatT K x y H Q ∨ (∃ i j, x = V.str i ∧ y = V.str j ∧ i.length + j.length ≤ sizeLine ∧ Q (.str (i ++ j)) H)))
theorem op_addA {X : Cx} : OpR X (binaryOp .Add) (rAddA X.K) := op_add.or (op_cat.or (op_catT.or op_add_str))
theorem d_add : OpD K (rAddA K) dAdd := by
  intro G H x y dx dy d Q s hx hy e k
  unfold dAdd at e
  split at e
  · cases e; cases hx; cases hy
    exact .inl ⟨_, _, rfl, rfl, k G H _ (Gr.refl s) (.int _)⟩
  · split at e
    · rename_i hl
      cases e
      cases hx with
      | lst h1 a1 =>
        cases hy with
        | lst h2 a2 =>
          refine .inr (.inl ⟨_, _, _, _, rfl, rfl, s _ _ h1, s _ _ h2, by rw [a1.length, a2.length]; exact size_of hl, fun p hp => k _ _ _ (Gr.new s hp) ?_⟩)
          exact .lst upd_same (DqAll_mono (Gr.new s hp).gg (a1.append a2))
    · cases e
  · split at e
    · rename_i hl
      cases e
      cases hx with
      | tup h1 a1 =>
        cases hy with
        | tup h2 a2 =>
          have ne : ∀ {vs : List V} {ds : List D}, DqAll K G vs ds → ds ≠ [] → vs ≠ [] := fun a h z => by
            subst z; cases a; exact h rfl
          refine .inr (.inr (.inl ⟨_, _, _, _, rfl, rfl, SqT_mono s h1, SqT_mono s h2, ne a1 hl.1, by rw [a1.length, a2.length]; exact size_of hl.2.2, fun z => absurd z (ne a2 hl.2.1), fun _ p hp => k _ _ _ (Gr.new s hp) ?_⟩))
          exact .tup (SqT.of upd_same) (DqAll_mono (Gr.new s hp).gg (a1.append a2))
    · cases e
  · split at e
    · rename_i hl
      cases e
      cases hx
      cases hy
      exact .inr (.inr (.inr ⟨_, _, rfl, rfl, size_of hl, k G H _ (Gr.refl s) (.str _)⟩))
    · cases e
  · cases e
theorem DqAll.rep {G : Hp} {vs : List V} {ds : List D} (h : DqAll K G vs ds) : ∀ k : Nat, DqAll K G (List.replicate k vs).flatten (List.replicate k ds).flatten
  | 0 => .nil
  | k + 1 => by
    rw [List.replicate_succ, List.replicate_succ, List.flatten_cons, List.flatten_cons]
    exact h.append (DqAll.rep h k)
/-- * -/
abbrev rMulA (K : Fr) : R2 := fun x y H Q => (rI IntMulOk fun i j => .int (i * j)) x y H Q ∨ (rRep x y H Q ∨ rRepT K x y H Q)
theorem op_mulA {X : Cx} : OpR X (binaryOp .Mult) (rMulA X.K) := (opI fun _ _ _ _ _ _ _ hc q => mul_int q hc).or (op_rep.or op_repT)
theorem d_mul : OpD K (rMulA K) dMul := by
  intro G H x y dx dy d Q s hx hy e k
  unfold dMul at e
  split at e
  · split at e
    · rename_i hc
      cases e; cases hx; cases hy
      exact .inl ⟨_, _, rfl, rfl, hc, k G H _ (Gr.refl s) (.int _)⟩
    · cases e
  · split at e
    · rename_i hl
      cases e
      cases hx with
      | lst h1 a1 =>
        cases hy
        refine .inr (.inl ⟨_, _, _, rfl, rfl, s _ _ h1, by omega, by omega, ?_, fun p hp => k _ _ _ (Gr.new s hp) ?_⟩)
        · rw [a1.length]
          refine size_of (Nat.le_trans (Nat.mul_le_mul hl.2.2 (show Int.toNat _ ≤ 1000 by omega)) (by decide))
        · exact .lst upd_same (DqAll_mono (Gr.new s hp).gg (a1.rep _))
    · cases e
  · split at e
    · rename_i hl
      cases e
      cases hx with
      | tup h1 a1 =>
        cases hy
        refine .inr (.inr ⟨_, _, _, rfl, rfl, SqT_mono s h1, fun z => ?_, hl.2.1, hl.2.2.1, by rw [a1.length]; exact hl.2.2.2, fun p hp => k _ _ _ (Gr.new s hp) ?_⟩)
        · subst z; cases a1; exact hl.1 rfl
        · exact .tup (SqT.of upd_same) (DqAll_mono (Gr.new s hp).gg (a1.rep _))
    · cases e
  · cases e
/-- is, is not -/
abbrev rIsA : R2 := fun x y H Q => rIsB x y H Q ∨ (y = .non ∧ Q (.bl (decide (x = .non))) H)
abbrev rIsNotA : R2 := fun x y H Q => rNotB x y H Q ∨ (y = .non ∧ Q (.bl (!decide (x = .non))) H)
theorem op_isA {X : Cx} : OpR X (compareOp .Is) rIsA := op_isBl.or op_isN
theorem op_isNotA {X : Cx} : OpR X (compareOp .IsNot) rIsNotA := op_notBl.or op_notN
theorem d_is : OpD K rIsA dIs := by
  intro G H x y dx dy d Q s hx hy e k
  unfold dIs at e
  split at e <;> first | (cases e; done) | skip
  · cases e; cases hx; cases hy
    exact .inl ⟨_, _, rfl, rfl, k G H _ (Gr.refl s) (.bl _)⟩
  all_goals
    cases e; cases hx; cases hy
    refine .inr ⟨rfl, ?_⟩
    exact k G H _ (Gr.refl s) (.bl _)
theorem d_isNot : OpD K rIsNotA dIsNot := by
  intro G H x y dx dy d Q s hx hy e k
  unfold dIsNot at e
  rw [Option.bind_eq_some_iff] at e
  obtain ⟨z, h, e⟩ := e
  unfold dIs at h
  split at h <;> first | (cases h; done) | skip
  · cases h; cases e; cases hx; cases hy
    exact .inl ⟨_, _, rfl, rfl, k G H _ (Gr.refl s) (.bl _)⟩
  all_goals
    cases h; cases e; cases hx; cases hy
    refine .inr ⟨rfl, ?_⟩
    exact k G H _ (Gr.refl s) (.bl _)
/-- in -/
theorem toV_eq {G : Hp} {v : V} {d : D} (h : Dq K G v d) (f : flatD d = true) : toV d = v ∧ flatV v = true := by
  cases h <;> first | exact ⟨rfl, rfl⟩ | cases f
theorem toV_all {G : Hp} : ∀ {vs : List V} {ds : List D}, DqAll K G vs ds → ds.all flatD = true → ds.map toV = vs ∧ vs.all flatV = true
  | _, _, .nil, _ => ⟨rfl, rfl⟩
  | _, _, .cons h t, f => by
    rw [List.all_cons, Bool.and_eq_true] at f
    obtain ⟨a, b⟩ := toV_eq h f.1
    obtain ⟨c, d⟩ := toV_all t f.2
    exact ⟨by rw [List.map_cons, a, c], by rw [List.all_cons, b, d]; rfl⟩
theorem d_in : OpD K (rIn K false) dIn := by
  intro G H x y dx dy d Q s hx hy e k
  unfold dIn at e
  rw [Option.bind_eq_some_iff] at e
  obtain ⟨ys, h, e⟩ := e
  split at e
  · rename_i hf
    cases e
    rw [Bool.and_eq_true] at hf
    obtain ⟨a, b⟩ := toV_eq hx hf.1
    cases dy <;> cases h
    · cases hy with
      | lst h1 a1 =>
        obtain ⟨c, d⟩ := toV_all a1 hf.2
        refine ⟨_, _, rfl, .inl (SqL.of (s _ _ h1)), b, d, ?_⟩
        rw [a, c] at k
        exact k G H _ (Gr.refl s) (.bl _)
    · cases hy with
      | tup h1 a1 =>
        obtain ⟨c, d⟩ := toV_all a1 hf.2
        refine ⟨_, _, rfl, .inr (SqT_mono s h1), b, d, ?_⟩
        rw [a, c] at k
        exact k G H _ (Gr.refl s) (.bl _)
  · cases e
theorem d_notIn : OpD K (rIn K true) dNotIn := by
  intro G H x y dx dy d Q s hx hy e k
  unfold dNotIn at e
  rw [Option.bind_eq_some_iff] at e
  obtain ⟨ys, h, e⟩ := e
  split at e
  · rename_i hf
    cases e
    rw [Bool.and_eq_true] at hf
    obtain ⟨a, b⟩ := toV_eq hx hf.1
    cases dy <;> cases h
    · cases hy with
      | lst h1 a1 =>
        obtain ⟨c, d⟩ := toV_all a1 hf.2
        refine ⟨_, _, rfl, .inl (SqL.of (s _ _ h1)), b, d, ?_⟩
        rw [a, c] at k
        exact k G H _ (Gr.refl s) (.bl _)
    · cases hy with
      | tup h1 a1 =>
        obtain ⟨c, d⟩ := toV_all a1 hf.2
        refine ⟨_, _, rfl, .inr (SqT_mono s h1), b, d, ?_⟩
        rw [a, c] at k
        exact k G H _ (Gr.refl s) (.bl _)
  · cases e
/-- a[i] -/
theorem atI_rel {G : Hp} {vs : List V} {ds : List D} {i : Int} {d : D} (h : DqAll K G vs ds) (e : atI ds i = some d) : ∃ v, atI vs i = some v ∧ Dq K G v d := by
  unfold atI at e ⊢
  rw [h.length]
  rw [Option.bind_eq_some_iff] at e
  obtain ⟨j, h1, e⟩ := e
  obtain ⟨v, h2, h3⟩ := h.get e
  exact ⟨v, by rw [h1]; exact h2, h3⟩
abbrev rIxA (K : Fr) : R2 := fun x y H Q => rIxL K x y H Q ∨ rIxT K x y H Q
theorem ix_A {X : Cx} : IxR X (rIxA X.K) := ix_list.or ix_tup
theorem d_ix : OpD K (rIxA K) dIx := by
  intro G H x y dx dy d Q s hx hy e k
  unfold dIx at e
  split at e
  · cases hy
    cases hx with
    | lst h1 a1 =>
      obtain ⟨v, h2, h3⟩ := atI_rel a1 e
      exact .inl ⟨_, _, _, v, rfl, rfl, SqL.of (s _ _ h1), h2, k G H _ (Gr.refl s) h3⟩
  · cases hy
    cases hx with
    | tup h1 a1 =>
      obtain ⟨v, h2, h3⟩ := atI_rel a1 e
      exact .inr ⟨_, _, _, v, rfl, rfl, SqT_mono s h1, h2, k G H _ (Gr.refl s) h3⟩
  · cases e
end
section
variable {X : Cx} {a b : Expr} {pos : Pos} {m n : M D}
theorem qe_add (ha : QE X a m) (hb : QE X b n) : QE X (.BinOp a .Add b pos) (eOp2 dAdd m n) := qe_op op_addA d_add ha hb
theorem qe_sub (ha : QE X a m) (hb : QE X b n) : QE X (.BinOp a .Sub b pos) (eOp2 dSub m n) := qe_op op_sub d_sub ha hb
theorem qe_mul (ha : QE X a m) (hb : QE X b n) : QE X (.BinOp a .Mult b pos) (eOp2 dMul m n) := qe_op op_mulA d_mul ha hb
theorem qe_mod (ha : QE X a m) (hb : QE X b n) : QE X (.BinOp a .Mod b pos) (eOp2 dMod m n) := qe_op op_modN d_mod ha hb
theorem qe_div (ha : QE X a m) (hb : QE X b n) : QE X (.BinOp a .FloorDiv b pos) (eOp2 dDiv m n) := qe_op op_fdivX d_div ha hb
theorem qe_pow (ha : QE X a m) (hb : QE X b n) : QE X (.BinOp a .Pow b pos) (eOp2 dPow m n) := qe_op op_pow d_pow ha hb
theorem qe_ix (ha : QE X a m) (hb : QE X b n) (hs : PlainIx b := by exact fun _ _ => rfl) : QE X (.Subscript a b pos) (eOp2 dIx m n) := PE.imp (pe_ix ix_A ha hb hs) fun _ _ _ h => tOp_of d_ix h
def eNeg (a : M D) : M D := eOp1 (fun d => match d with | .int i => some (.int (-i)) | _ => none) a
theorem qe_neg (ha : QE X a m) : QE X (.UnaryOp .USub a pos) (eNeg m) := by
  refine PE.imp (pe_un un_neg ha) fun σ H Q h => ?_
  obtain ⟨R, G, ρ, d, ρ', rp, e, k⟩ := h
  unfold eNeg eOp1 at e
  rw [Option.bind_eq_some_iff] at e
  obtain ⟨⟨x, ρ1⟩, h1, e⟩ := e
  rw [Option.map_eq_some_iff] at e
  obtain ⟨z, h2, e⟩ := e
  cases e
  refine ⟨R, G, ρ, x, _, rp, h1, fun G1 H1 v1 s1 r1 d1 => ?_⟩
  cases x <;> cases h2
  cases d1
  exact ⟨_, rfl, k G1 H1 _ s1 r1 (.int _)⟩
end

/-! ### calls of built-ins -/
def dLen : List D → Option D
  | [.list a] => some (.int a.length)
  | [.tuple a] => some (.int a.length)
  | _ => none
def dAbs : List D → Option D
  | [.int i] => some (.int (if i < 0 then -i else i))
  | _ => none
def dMin : List D → Option D
  | [.int i, .int j] => some (.int (if j < i then j else i))
  | _ => none
def dMax : List D → Option D
  | [.int i, .int j] => some (.int (if j > i then j else i))
  | _ => none
def bools : List D → Option (List Bool)
  | [] => some []
  | .bool b :: r => (bools r).map fun x => b :: x
  | _ => none
def intsOf : List D → Option (List Int)
  | [] => some []
  | .int b :: r => (intsOf r).map fun x => b :: x
  | _ => none
def dAll : List D → Option D
  | [.list a] => (bools a).map fun bs => .bool (bs.all id)
  | _ => none
def dAny : List D → Option D
  | [.list a] => (bools a).map fun bs => .bool (bs.any id)
  | _ => none
def dSum : List D → Option D
  | [.list a] => (intsOf a).map fun ns => .int ns.sum
  | _ => none
def dList : List D → Option D
  | [.list a] => some (.list a)
  | [.tuple a] => some (.list a)
  | _ => none
def dTuple : List D → Option D
  | [.list a] => some (.tuple a)
  | [.tuple a] => some (.tuple a)
  | _ => none
def dSortedI : List D → Option D
  | [.list a] => (intsOf a).map fun ns => .list ((ns.mergeSort (· ≤ ·)).map .int)
  | _ => none
def dInt : List D → Option D
  | [.int a] => some (.int a)
  | [.bool b] => some (.int (if b then 1 else 0))
  | _ => none
section
variable {K : Fr}
theorem one_of {G : Hp} {vs : List V} {d : D} (h : DqAll K G vs [d]) : ∃ v, vs = [v] ∧ Dq K G v d := by
  cases h with
  | cons a b => cases b; exact ⟨_, rfl, a⟩
theorem two_of {G : Hp} {vs : List V} {d e : D} (h : DqAll K G vs [d, e]) : ∃ v w, vs = [v, w] ∧ Dq K G v d ∧ Dq K G w e := by
  cases h with
  | cons a b =>
    obtain ⟨w, rfl, h⟩ := one_of b
    exact ⟨_, _, rfl, a, h⟩
theorem d_len : CallD K (fun xs H Q => ∃ p ys, xs = [.ref p] ∧ (SqL K H p ys ∨ SqT K H p ys) ∧ Q (.int ys.length) H) dLen := by
  intro G H vs ds d Q s h e k
  unfold dLen at e
  split at e
  · cases e
    obtain ⟨v, rfl, hd⟩ := one_of h
    cases hd with
    | lst h1 a1 => exact ⟨_, _, rfl, .inl (SqL.of (s _ _ h1)), by rw [a1.length]; exact k G H _ (Gr.refl s) (.int _)⟩
  · cases e
    obtain ⟨v, rfl, hd⟩ := one_of h
    cases hd with
    | tup h1 a1 => exact ⟨_, _, rfl, .inr (SqT_mono s h1), by rw [a1.length]; exact k G H _ (Gr.refl s) (.int _)⟩
  · cases e
theorem d_abs : CallD K (fun xs H Q => ∃ i, xs = [V.int i] ∧ Q (.int (if i < 0 then -i else i)) H) dAbs := by
  intro G H vs ds d Q s h e k
  unfold dAbs at e
  split at e
  · cases e
    obtain ⟨v, rfl, hd⟩ := one_of h
    cases hd
    exact ⟨_, rfl, k G H _ (Gr.refl s) (.int _)⟩
  · cases e
theorem d_min : CallD K (fun xs H Q => ∃ i j, xs = [V.int i, .int j] ∧ Q (.int (if j < i then j else i)) H) dMin := by
  intro G H vs ds d Q s h e k
  unfold dMin at e
  split at e
  · cases e
    obtain ⟨v, w, rfl, h1, h2⟩ := two_of h
    cases h1; cases h2
    exact ⟨_, _, rfl, k G H _ (Gr.refl s) (.int _)⟩
  · cases e
theorem d_max : CallD K (fun xs H Q => ∃ i j, xs = [V.int i, .int j] ∧ Q (.int (if j > i then j else i)) H) dMax := by
  intro G H vs ds d Q s h e k
  unfold dMax at e
  split at e
  · cases e
    obtain ⟨v, w, rfl, h1, h2⟩ := two_of h
    cases h1; cases h2
    exact ⟨_, _, rfl, k G H _ (Gr.refl s) (.int _)⟩
  · cases e
theorem bools_of {G : Hp} : ∀ {vs : List V} {ds : List D} {bs : List Bool}, DqAll K G vs ds → bools ds = some bs → vs = bs.map V.bl
  | _, [], bs, .nil, e => by cases e; rfl
  | _, d :: ds, bs, .cons h t, e => by
    cases d <;> first | cases e | skip
    unfold bools at e
    rw [Option.map_eq_some_iff] at e
    obtain ⟨x, h1, e⟩ := e
    cases e
    cases h
    rw [bools_of t h1]
    rfl
theorem ints_of {G : Hp} : ∀ {vs : List V} {ds : List D} {bs : List Int}, DqAll K G vs ds → intsOf ds = some bs → vs = bs.map V.int
  | _, [], bs, .nil, e => by cases e; rfl
  | _, d :: ds, bs, .cons h t, e => by
    cases d <;> first | cases e | skip
    unfold intsOf at e
    rw [Option.map_eq_some_iff] at e
    obtain ⟨x, h1, e⟩ := e
    cases e
    cases h
    rw [ints_of t h1]
    rfl
theorem d_all : CallD K (rAll K) dAll := by
  intro G H vs ds d Q s h e k
  unfold dAll at e
  split at e
  · rw [Option.map_eq_some_iff] at e
    obtain ⟨bs, hb, e⟩ := e
    cases e
    obtain ⟨v, rfl, hd⟩ := one_of h
    cases hd with
    | lst h1 a1 =>
      rw [bools_of a1 hb] at h1
      exact ⟨_, bs, rfl, SqL.of (s _ _ h1), k G H _ (Gr.refl s) (.bl _)⟩
  · cases e
theorem d_any : CallD K (rAny K) dAny := by
  intro G H vs ds d Q s h e k
  unfold dAny at e
  split at e
  · rw [Option.map_eq_some_iff] at e
    obtain ⟨bs, hb, e⟩ := e
    cases e
    obtain ⟨v, rfl, hd⟩ := one_of h
    cases hd with
    | lst h1 a1 =>
      rw [bools_of a1 hb] at h1
      exact ⟨_, bs, rfl, SqL.of (s _ _ h1), k G H _ (Gr.refl s) (.bl _)⟩
  · cases e
theorem d_sum : CallD K (rSum K) dSum := by
  intro G H vs ds d Q s h e k
  unfold dSum at e
  split at e
  · rw [Option.map_eq_some_iff] at e
    obtain ⟨bs, hb, e⟩ := e
    cases e
    obtain ⟨v, rfl, hd⟩ := one_of h
    cases hd with
    | lst h1 a1 =>
      rw [ints_of a1 hb] at h1
      exact ⟨_, bs, rfl, SqL.of (s _ _ h1), k G H _ (Gr.refl s) (.int _)⟩
  · cases e
theorem d_list : CallD K (fun xs H Q => ∃ p ys, xs = [.ref p] ∧ (SqL K H p ys ∨ SqT K H p ys) ∧ ∀ l, H l = none → Q (.ref l) (upd H l (.lst ys))) dList := by
  intro G H vs ds d Q s h e k
  unfold dList at e
  split at e
  · cases e
    obtain ⟨v, rfl, hd⟩ := one_of h
    cases hd with
    | lst h1 a1 => exact ⟨_, _, rfl, .inl (SqL.of (s _ _ h1)), fun p hp => k _ _ _ (Gr.new s hp) (.lst upd_same (DqAll_mono (Gr.new s hp).gg a1))⟩
  · cases e
    obtain ⟨v, rfl, hd⟩ := one_of h
    cases hd with
    | tup h1 a1 => exact ⟨_, _, rfl, .inr (SqT_mono s h1), fun p hp => k _ _ _ (Gr.new s hp) (.lst upd_same (DqAll_mono (Gr.new s hp).gg a1))⟩
  · cases e
theorem d_tuple : CallD K (fun xs H Q => ∃ p ys, xs = [.ref p] ∧ ((SqL K H p ys ∧ ∀ l, H l = none → Q (.ref l) (upd H l (.tup ys))) ∨ (SqT K H p ys ∧ Q (.ref p) H))) dTuple := by
  intro G H vs ds d Q s h e k
  unfold dTuple at e
  split at e
  · cases e
    obtain ⟨v, rfl, hd⟩ := one_of h
    cases hd with
    | lst h1 a1 => exact ⟨_, _, rfl, .inl ⟨SqL.of (s _ _ h1), fun p hp => k _ _ _ (Gr.new s hp) (.tup (SqT.of upd_same) (DqAll_mono (Gr.new s hp).gg a1))⟩⟩
  · cases e
    obtain ⟨v, rfl, hd⟩ := one_of h
    cases id hd with
    | tup h1 a1 => exact ⟨_, _, rfl, .inr ⟨SqT_mono s h1, k G H _ (Gr.refl s) hd⟩⟩
  · cases e
theorem d_int : CallD K (fun xs H Q => (∃ i, xs = [V.int i] ∧ Q (.int i) H) ∨ ∃ k, xs = [V.bl k] ∧ Q (.int (if k then 1 else 0)) H) dInt := by
  intro G H vs ds d Q s h e k
  unfold dInt at e
  split at e
  · cases e
    obtain ⟨v, rfl, hd⟩ := one_of h
    cases hd
    exact .inl ⟨_, rfl, k G H _ (Gr.refl s) (.int _)⟩
  · cases e
    obtain ⟨v, rfl, hd⟩ := one_of h
    cases hd
    exact .inr ⟨_, rfl, k G H _ (Gr.refl s) (.int _)⟩
  · cases e
theorem sorted_one {a b : List Int} (p : a.Perm b) (h1 : a.Pairwise (· ≤ ·)) : a = b.mergeSort (· ≤ ·) := by
  have h2 : (b.mergeSort (· ≤ ·)).Pairwise (· ≤ ·) := by
    have := List.pairwise_mergeSort (le := fun (x y : Int) => decide (x ≤ y)) (fun a b c h1 h2 => by simp at *; omega) (fun a b => by simp; omega) b
    simpa using this
  have p2 : a.Perm (b.mergeSort (· ≤ ·)) := p.trans (List.mergeSort_perm b _).symm
  exact p2.eq_of_pairwise (fun x y _ _ h1 h2 => by omega) h1 h2
theorem d_sortedI : CallD K (rSortedI K) dSortedI := by
  intro G H vs ds d Q s h e k
  unfold dSortedI at e
  split at e
  · rw [Option.map_eq_some_iff] at e
    obtain ⟨bs, hb, e⟩ := e
    cases e
    obtain ⟨v, rfl, hd⟩ := one_of h
    cases hd with
    | lst h1 a1 =>
      rw [ints_of a1 hb] at h1
      refine ⟨_, bs, rfl, SqL.of (s _ _ h1), fun ns' p hp hs hn => k _ _ _ (Gr.new s hn) ?_⟩
      rw [← sorted_one hp hs]
      refine .lst upd_same ?_
      have : ∀ (G : Hp) (l : List Int), DqAll K G (l.map V.int) (l.map PyData.int) := fun G l => by
        induction l with
        | nil => exact .nil
        | cons a r ih => exact .cons (.int _) ih
      exact this _ _
  · cases e
/-- isinstance(x, T), T built in -/
def isaD (T : String) : D → Option Bool
  | .none => kitB "NoneType" T
  | .bool _ => kitB "bool" T
  | .int _ => kitB "int" T
  | .str _ => kitB "str" T
  | .list _ => kitB "list" T
  | .tuple _ => kitB "tuple" T
  | .dict _ => none
end
end QL
set_option Elab.async false
set_option linter.all false
set_option maxRecDepth 100000
set_option maxHeartbeats 1000000
namespace QL
open PySem PySem.Spec PyProof.Rows L2

/-! ### isinstance -/
def isaV (T : String) : D → Option D := fun d => match d with
  | .none => (kitB "NoneType" T).map .bool
  | .bool _ => (kitB "bool" T).map .bool
  | .int _ => (kitB "int" T).map .bool
  | .str _ => (kitB "str" T).map .bool
  | .list _ => (kitB "list" T).map .bool
  | .tuple _ => (kitB "tuple" T).map .bool
  | .dict _ => none
theorem tyX_of {K : Fr} {G H : Hp} {v : V} {d : D} (s : Same G H) (hd : ∀ kvs, d ≠ .dict kvs) (h : Dq K G v d) : ∃ t, TyX K H v (.type t) ∧ (∀ T, isaV T d = (kitB t T).map .bool) := by
  cases h with
  | non => exact ⟨_, .base .non, fun _ => rfl⟩
  | bl b => exact ⟨_, .base (.bl _), fun _ => rfl⟩
  | int b => exact ⟨_, .base (.int _), fun _ => rfl⟩
  | str b => exact ⟨_, .base (.str _), fun _ => rfl⟩
  | lst h1 _ => exact ⟨_, .base (.lst (s _ _ h1)), fun _ => rfl⟩
  | tup h1 _ =>
    rcases h1 with (h1 | ⟨o, h1⟩) | ⟨o, its, n, h1, hc, _⟩
    · exact ⟨_, .base (.tup (s _ _ h1)), fun _ => rfl⟩
    · exact ⟨_, .fTuple (s _ _ h1), fun _ => rfl⟩
    · exact ⟨_, .kTuple h1 hc, fun _ => rfl⟩
  | dic _ _ => exact absurd rfl (hd _)
section
variable {X : Cx} {a e : Expr} {es : List Expr} {pos p p2 : Pos}
theorem qe_isa {m : M D} {T : Str} {n : String} (ha : QE X a m) (hm : X.mg "isinstance" = none) (hT : X.mg T = none) (hg : Gl X "isinstance" := by rfl) (hg2 : Gl X T := by rfl) (hv : bootBuiltins T = some (.type n) := by decide +kernel) (hn : T ≠ "__name__" := by decide) (hd : (T == ("__debug__" : Str)) = false := by decide)
    (h1 : starEach [.Name T p2] X.env = (false, eval (.Name T p2) X.env) :: starEach [] X.env := by rfl) (h2 : starEach [a, .Name T p2] X.env = (false, eval a X.env) :: starEach [.Name T p2] X.env := by rfl) (hpl : (backTo pos (starEach [.Name T p2] X.env)).any (·.1) = false := by rfl) :
    QE X (.Call (.Name "isinstance" p) [a, .Name T p2] [] pos) (eOp1 (isaV n) m) := by
  refine PE.imp (pe_callB call_isi hg hm (by decide +kernel) (pa_cons ha (pa_cons (pe_bltn (v := .ty n) hg2 hT hv rfl hn hd) pa_nil h1) h2) (by decide) (by decide) h2 hpl) fun σ H Q h => ?_
  obtain ⟨R, G, ρ, d, ρ', rp, e, k⟩ := h
  unfold eOp1 at e
  rw [Option.bind_eq_some_iff] at e
  obtain ⟨⟨x, ρ1⟩, h1, e⟩ := e
  rw [Option.map_eq_some_iff] at e
  obtain ⟨z, h2, e⟩ := e
  cases e
  refine ⟨R, G, ρ, x, _, rp, h1, fun G1 H1 v1 s1 r1 d1 => ?_⟩
  obtain ⟨t, ty, ht⟩ := tyX_of r1.subG (fun kvs q => by rw [q] at h2; cases h2) d1
  rw [ht n, Option.map_eq_some_iff] at h2
  obtain ⟨b, h3, h2⟩ := h2
  cases h2
  exact ⟨v1, .ty n, .type t, .type n, b, rfl, .ty n, ty, kit_ty h3, k G1 H1 _ s1 r1 (.bl _)⟩
end

/-! ### own lists -/
def ownL (ρ : Ro) (i : Nat) : Option (List D) := match ρ[i]? with
  | some (.own (.lst ds)) => some ds
  | _ => none
theorem ownL_some {ρ : Ro} {i : Nat} {ds : List D} (h : ownL ρ i = some ds) : ρ[i]? = some (.own (.lst ds)) := by
  unfold ownL at h
  split at h
  · cases h; assumption
  · cases h
theorem Rep.ownAt {K : Fr} {R G H : Hp} {ρ : Ro} {σ : St} {i : Nat} {ds : List D} (r : Rep K R G H ρ σ) (h : ρ[i]? = some (.own (.lst ds))) : ∃ p vs, σ[i]? = some (some (.ref p)) ∧ H p = some (.lst vs) ∧ DqAll K G vs ds := by
  obtain ⟨p, ho, e, hp, gp, rp, x⟩ := r.slot i _ h
  cases ho <;> try exact x.elim
  exact ⟨p, _, e, hp, x⟩
def eAppend (i : Nat) (a : M D) : M D := fun ρ => (ownL ρ i).bind fun _ => (a ρ).bind fun p => (ownL p.2 i).bind fun ds => if ds.length < 1000000 then some (.none, p.2.set i (.own (.lst (ds ++ [p.1])))) else none
def eExtend (i : Nat) (a : M D) : M D := fun ρ => (ownL ρ i).bind fun _ => (a ρ).bind fun p => (ownL p.2 i).bind fun ds => match p.1 with
  | .list es => if ds.length + es.length ≤ 1000000 then some (.none, p.2.set i (.own (.lst (ds ++ es)))) else none
  | _ => none
def ePopAt (i : Nat) (a : M D) : M D := fun ρ => (ownL ρ i).bind fun _ => (a ρ).bind fun p => (ownL p.2 i).bind fun ds => match p.1 with
  | .int j => if 0 ≤ j ∧ j < 2 ^ 63 then (ds[j.toNat]?).map fun d => (d, p.2.set i (.own (.lst (ds.eraseIdx j.toNat)))) else none
  | _ => none
def eLenO (i : Nat) : M D := fun ρ => (ownL ρ i).map fun ds => (.int ds.length, ρ)
def eIxO (i : Nat) (a : M D) : M D := fun ρ => (ownL ρ i).bind fun _ => (a ρ).bind fun p => (ownL p.2 i).bind fun ds => match p.1 with
  | .int j => (atI ds j).map fun d => (d, p.2)
  | _ => none
section
variable {X : Cx} {a e : Expr} {es : List Expr} {pos p p2 apos cpos : Pos} {x : Str}
theorem qe_append (i : Nat) {m : M D} (ha : QE X a m) (hN : X.N[i]? = some x := by rfl) (hv : Vis X.env.scope x := by first | exact Or.inl rfl | exact Or.inr (Or.inl rfl) | exact Or.inr (Or.inr rfl)) (hd : (x == ("__debug__" : Str)) = false := by decide) (hcd : (x == ("__classdict__" : Str)) = false := by decide)
    (hbase : attributeBase (.Name x p) "append" X.env (eval (.Name x p) X.env) = eval (.Name x p) X.env := by rfl)
    (hfew : ((backTo cpos (starEach [a] X.env)).all (fun x => !x.1) && (backToKw cpos (keywordEach [] X.env)).all (fun x => x.1.isSome)
      && decide ([a].length + ([] : List Keyword).length + (if ([] : List Keyword).isEmpty then 0 else 1) < 30)) = true := by rfl)
    (hline : (apos.endLine == cpos.line) = true := by rfl) (hs : starEach [a] X.env = (false, eval a X.env) :: starEach [] X.env := by rfl) (hplain : (backTo cpos (starEach [] X.env)).any (·.1) = false := by rfl) :
    QE X (.Call (.Attribute (.Name x p) "append" apos) [a] [] cpos) (eAppend i m) := by
  refine PE.imp (pe_bm PySem.F.plainAttrs_list PySem.F.slot_list_append PySem.F.type_list_append mt_append (pe_var hN hv hd hcd) (pa_cons ha pa_nil hs) hbase hfew hline hs hplain) fun σ H Q h => ?_
  obtain ⟨R, G, ρ, d, ρ', rp, e, k⟩ := h
  unfold eAppend at e
  rw [Option.bind_eq_some_iff] at e
  obtain ⟨ds0, h0, e⟩ := e
  rw [Option.bind_eq_some_iff] at e
  obtain ⟨⟨y, ρ1⟩, h1, e⟩ := e
  rw [Option.bind_eq_some_iff] at e
  obtain ⟨ds, h2, e⟩ := e
  split at e
  · rename_i hl
    cases e
    obtain ⟨q, vs0, eq0, hq0, _⟩ := rp.ownAt (ownL_some h0)
    refine ⟨.ref q, eq0, .inl ⟨rfl, _, SqL.of hq0⟩, R, G, ρ, y, ρ1, rp, h1, fun G1 H1 v1 s1 r1 d1 => ?_⟩
    obtain ⟨q', vs, eq, hq, dv⟩ := r1.ownAt (ownL_some h2)
    rw [eq0] at eq
    cases eq
    refine ⟨_, vs, v1, rfl, rfl, hq, by rw [dv.length]; exact Nat.lt_of_lt_of_le hl (by decide), k G1 _ _ s1 (r1.write (ownL_some h2) eq0 (c' := .lst (ds ++ [y])) (ho := .lst (vs ++ [v1])) ?_) .non⟩
    exact dv.append (.cons d1 .nil)
  · cases e
theorem qe_extend (i : Nat) {m : M D} (ha : QE X a m) (hN : X.N[i]? = some x := by rfl) (hv : Vis X.env.scope x := by first | exact Or.inl rfl | exact Or.inr (Or.inl rfl) | exact Or.inr (Or.inr rfl)) (hd : (x == ("__debug__" : Str)) = false := by decide) (hcd : (x == ("__classdict__" : Str)) = false := by decide)
    (hbase : attributeBase (.Name x p) "extend" X.env (eval (.Name x p) X.env) = eval (.Name x p) X.env := by rfl)
    (hfew : ((backTo cpos (starEach [a] X.env)).all (fun x => !x.1) && (backToKw cpos (keywordEach [] X.env)).all (fun x => x.1.isSome)
      && decide ([a].length + ([] : List Keyword).length + (if ([] : List Keyword).isEmpty then 0 else 1) < 30)) = true := by rfl)
    (hline : (apos.endLine == cpos.line) = true := by rfl) (hs : starEach [a] X.env = (false, eval a X.env) :: starEach [] X.env := by rfl) (hplain : (backTo cpos (starEach [] X.env)).any (·.1) = false := by rfl) :
    QE X (.Call (.Attribute (.Name x p) "extend" apos) [a] [] cpos) (eExtend i m) := by
  refine PE.imp (pe_bm PySem.F.plainAttrs_list PySem.F.slot_list_extend PySem.F.type_list_extend mt_extend (pe_var hN hv hd hcd) (pa_cons ha pa_nil hs) hbase hfew hline hs hplain) fun σ H Q h => ?_
  obtain ⟨R, G, ρ, d, ρ', rp, e, k⟩ := h
  unfold eExtend at e
  rw [Option.bind_eq_some_iff] at e
  obtain ⟨ds0, h0, e⟩ := e
  rw [Option.bind_eq_some_iff] at e
  obtain ⟨⟨y, ρ1⟩, h1, e⟩ := e
  rw [Option.bind_eq_some_iff] at e
  obtain ⟨ds, h2, e⟩ := e
  cases y <;> try (cases e; done)
  rename_i es
  simp only at e
  split at e
  · rename_i hl
    cases e
    obtain ⟨q, vs0, eq0, hq0, _⟩ := rp.ownAt (ownL_some h0)
    refine ⟨.ref q, eq0, .inl ⟨rfl, _, SqL.of hq0⟩, R, G, ρ, .list es, ρ1, rp, h1, fun G1 H1 v1 s1 r1 d1 => ?_⟩
    obtain ⟨q', vs, eq, hq, dv⟩ := r1.ownAt (ownL_some h2)
    rw [eq0] at eq
    cases eq
    cases d1 with
    | lst hb db =>
      refine ⟨_, _, vs, _, rfl, rfl, hq, r1.subG _ _ hb, by rw [dv.length, db.length]; exact size_of hl, k G1 _ _ s1 (r1.write (ownL_some h2) eq0 (c' := .lst (ds ++ es)) (ho := .lst (vs ++ _)) ?_) .non⟩
      exact dv.append db
  · cases e
theorem qe_popAt (i : Nat) {m : M D} (ha : QE X a m) (hN : X.N[i]? = some x := by rfl) (hv : Vis X.env.scope x := by first | exact Or.inl rfl | exact Or.inr (Or.inl rfl) | exact Or.inr (Or.inr rfl)) (hd : (x == ("__debug__" : Str)) = false := by decide) (hcd : (x == ("__classdict__" : Str)) = false := by decide)
    (hbase : attributeBase (.Name x p) "pop" X.env (eval (.Name x p) X.env) = eval (.Name x p) X.env := by rfl)
    (hfew : ((backTo cpos (starEach [a] X.env)).all (fun x => !x.1) && (backToKw cpos (keywordEach [] X.env)).all (fun x => x.1.isSome)
      && decide ([a].length + ([] : List Keyword).length + (if ([] : List Keyword).isEmpty then 0 else 1) < 30)) = true := by rfl)
    (hline : (apos.endLine == cpos.line) = true := by rfl) (hs : starEach [a] X.env = (false, eval a X.env) :: starEach [] X.env := by rfl) (hplain : (backTo cpos (starEach [] X.env)).any (·.1) = false := by rfl) :
    QE X (.Call (.Attribute (.Name x p) "pop" apos) [a] [] cpos) (ePopAt i m) := by
  refine PE.imp (pe_bm PySem.F.plainAttrs_list PySem.F.slot_list_pop PySem.F.type_list_pop mt_popAt (pe_var hN hv hd hcd) (pa_cons ha pa_nil hs) hbase hfew hline hs hplain) fun σ H Q h => ?_
  obtain ⟨R, G, ρ, d, ρ', rp, e, k⟩ := h
  unfold ePopAt at e
  rw [Option.bind_eq_some_iff] at e
  obtain ⟨ds0, h0, e⟩ := e
  rw [Option.bind_eq_some_iff] at e
  obtain ⟨⟨y, ρ1⟩, h1, e⟩ := e
  rw [Option.bind_eq_some_iff] at e
  obtain ⟨ds, h2, e⟩ := e
  cases y <;> try (cases e; done)
  rename_i j
  simp only at e
  split at e
  · rename_i hl
    rw [Option.map_eq_some_iff] at e
    obtain ⟨z, hz, e⟩ := e
    cases e
    obtain ⟨q, vs0, eq0, hq0, _⟩ := rp.ownAt (ownL_some h0)
    refine ⟨.ref q, eq0, .inl ⟨rfl, _, SqL.of hq0⟩, R, G, ρ, .int j, ρ1, rp, h1, fun G1 H1 v1 s1 r1 d1 => ?_⟩
    obtain ⟨q', vs, eq, hq, dv⟩ := r1.ownAt (ownL_some h2)
    rw [eq0] at eq
    cases eq
    cases d1
    obtain ⟨w, hw, dw⟩ := dv.get hz
    refine ⟨_, vs, j, j.toNat, w, rfl, rfl, hq, by omega, hl.2, ?_, hw, k G1 _ _ s1 (r1.write (ownL_some h2) eq0 (c' := .lst (ds.eraseIdx j.toNat)) (ho := .lst (vs.eraseIdx j.toNat)) (dv.eraseIdx _)) dw⟩
    have hj : j.toNat < vs.length := (List.getElem?_eq_some_iff.mp hw).1
    have e1 : ixN vs.length j = some j.toNat := by
      unfold ixN
      rw [if_pos hl.1, if_pos (by omega)]
    exact (ixN_seq e1).1
  · cases e
theorem qe_lenO (i : Nat) (hm : X.mg "len" = none) (hN : X.N[i]? = some x := by rfl) (hv : Vis X.env.scope x := by first | exact Or.inl rfl | exact Or.inr (Or.inl rfl) | exact Or.inr (Or.inr rfl)) (hd : (x == ("__debug__" : Str)) = false := by decide) (hcd : (x == ("__classdict__" : Str)) = false := by decide) (hg : Gl X "len" := by rfl)
    (hs : starEach [.Name x p] X.env = (false, eval (.Name x p) X.env) :: starEach [] X.env := by rfl) (hpl : (backTo pos (starEach [] X.env)).any (·.1) = false := by rfl) : QE X (.Call (.Name "len" p2) [.Name x p] [] pos) (eLenO i) := by
  refine PE.imp (pe_callB call_len_seq hg hm PySem.boot_len (pa_cons (pe_var hN hv hd hcd) pa_nil hs) (by decide) (by decide) hs hpl) fun σ H Q h => ?_
  obtain ⟨R, G, ρ, d, ρ', rp, e, k⟩ := h
  unfold eLenO at e
  rw [Option.map_eq_some_iff] at e
  obtain ⟨ds, h0, e⟩ := e
  cases e
  obtain ⟨q, vs, eq, hq, dv⟩ := rp.ownAt (ownL_some h0)
  exact ⟨.ref q, eq, q, vs, rfl, .inl (SqL.of hq), by rw [dv.length]; exact k G H _ (.refl _) rp (.int _)⟩
theorem qe_ixO (i : Nat) {m : M D} (ha : QE X a m) (hN : X.N[i]? = some x := by rfl) (hv : Vis X.env.scope x := by first | exact Or.inl rfl | exact Or.inr (Or.inl rfl) | exact Or.inr (Or.inr rfl)) (hd : (x == ("__debug__" : Str)) = false := by decide) (hcd : (x == ("__classdict__" : Str)) = false := by decide) (hs : PlainIx a := by exact fun _ _ => rfl) :
    QE X (.Subscript (.Name x p) a pos) (eIxO i m) := by
  refine PE.imp (pe_ix ix_list (pe_var hN hv hd hcd) ha hs) fun σ H Q h => ?_
  obtain ⟨R, G, ρ, d, ρ', rp, e, k⟩ := h
  unfold eIxO at e
  rw [Option.bind_eq_some_iff] at e
  obtain ⟨ds0, h0, e⟩ := e
  rw [Option.bind_eq_some_iff] at e
  obtain ⟨⟨y, ρ1⟩, h1, e⟩ := e
  rw [Option.bind_eq_some_iff] at e
  obtain ⟨ds, h2, e⟩ := e
  cases y <;> try (cases e; done)
  rename_i j
  simp only at e
  rw [Option.map_eq_some_iff] at e
  obtain ⟨z, hz, e⟩ := e
  cases e
  obtain ⟨q, vs0, eq0, hq0, _⟩ := rp.ownAt (ownL_some h0)
  refine ⟨.ref q, eq0, R, G, ρ, .int j, _, rp, h1, fun G1 H1 v1 s1 r1 d1 => ?_⟩
  obtain ⟨q', vs, eq, hq, dv⟩ := r1.ownAt (ownL_some h2)
  rw [eq0] at eq
  cases eq
  cases d1
  obtain ⟨w, hw, dw⟩ := atI_rel dv hz
  exact ⟨_, vs, j, w, rfl, rfl, SqL.of hq, hw, k G1 H1 _ s1 r1 dw⟩
/-- x[i] = e, x one's own list -/
def sSetIx (i : Nat) (a b : M D) : MS := fun ρ => (b ρ).bind fun p => (ownL p.2 i).bind fun _ => (a p.2).bind fun q => (ownL q.2 i).bind fun ds => match q.1 with
  | .int j => (ixN ds.length j).map fun n => (.nx, q.2.set i (.own (.lst (ds.set n p.1))))
  | _ => none
theorem qs_setIx (i : Nat) {m n : M D} {b : Expr} (ha : QE X a m) (hb : QE X b n) (hN : X.N[i]? = some x := by rfl) (hv : Vis X.env.scope x := by first | exact Or.inl rfl | exact Or.inr (Or.inl rfl) | exact Or.inr (Or.inr rfl)) (hd : (x == ("__debug__" : Str)) = false := by decide) (hcd : (x == ("__classdict__" : Str)) = false := by decide)
    (hs : swapsWithSole [.Subscript (.Name x p) a p2] b pos.line X.env = pure false := by rfl) (hw : swappedStores [.Subscript (.Name x p) a p2] b X.env = pure none := by rfl)
    (h1 : (assignEach [.Subscript (.Name x p) a p2] X.env).map (·.2) = [assign (.Subscript (.Name x p) a p2) X.env] := by rfl)
    (has : ∀ v, assign (.Subscript (.Name x p) a p2) X.env v = (do
      let ov ← holding [v] (eval (.Name x p) X.env)
      let iv ← holding [v, ov] (eval a X.env)
      standAt p2
      holding [v, ov, iv] (setItem ov iv v)
      release [v, ov, iv] []) := by intro _; rfl) : QS X [] (.Assign [.Subscript (.Name x p) a p2] b pos) (sSetIx i m n) := by
  refine PS.imp (ps_asg hb (pg_sub (pe_var hN hv hd hcd) ha set_list has) hs hw h1) fun E σ H h => ?_
  obtain ⟨R, G, ρ, f, ρ', rp, e, k⟩ := h
  unfold sSetIx at e
  rw [Option.bind_eq_some_iff] at e
  obtain ⟨⟨y, ρ1⟩, h1, e⟩ := e
  rw [Option.bind_eq_some_iff] at e
  obtain ⟨ds0, h0, e⟩ := e
  rw [Option.bind_eq_some_iff] at e
  obtain ⟨⟨z, ρ2⟩, h2, e⟩ := e
  rw [Option.bind_eq_some_iff] at e
  obtain ⟨ds, h3, e⟩ := e
  cases z <;> try (cases e; done)
  rename_i j
  simp only at e
  rw [Option.map_eq_some_iff] at e
  obtain ⟨l, hl, e⟩ := e
  cases e
  refine ⟨R, G, ρ, y, ρ1, rp, h1, fun G1 H1 v1 s1 r1 d1 => ?_⟩
  obtain ⟨q, vs0, eq0, hq0, _⟩ := r1.ownAt (ownL_some h0)
  refine ⟨.ref q, eq0, R, G1, ρ1, .int j, ρ2, r1, h2, fun G2 H2 v2 s2 r2 d2 => ?_⟩
  obtain ⟨q', vs, eq, hq, dv⟩ := r2.ownAt (ownL_some h3)
  rw [eq0] at eq
  cases eq
  cases d2
  refine ⟨_, vs, j, l, rfl, rfl, hq, by rw [dv.length]; exact hl, k G2 _ σ (s1.trans s2) (r2.write (ownL_some h3) eq0 (c' := .lst (ds.set l y)) (ho := .lst (vs.set l v1)) ?_) (.refl _ _)⟩
  exact DqAll.set (Dq_mono s2 d1) l dv
end

/-! ### defs -/
theorem fnP {P : Program} {w : World} {K : Fr} {mg : Str → Option Value} {base : Heap} {x qual : Str} {st : Stmt} {f : Addr} {fd : FuncData} {N ps : List Str} {k : Nat} {W : List Nat} {body : MS} (F : Fun K x qual st f fd) (S : FnScope N ps (defScope st))
    (h : ∀ (cdv : Value) (A : Around) (outer : List Env) (s : Shared) (H : Hp) (E : XK), Room k (A.deeper (envOfC qual (defScope st) s.heap.objs.size f cdv)) → QSs (cxOf CX0 P w K mg base N qual (defScope st) f cdv A outer s H E).nox W (defBody st) body) :
    FnOk P w K mg base CX0 (k + 1) f fd ps (spP K (runF ps.length N.length body) ps.length) := by
  refine F.ok S (fun vs H Q E h => h.1) (fun cdv A outer s H vs Q E hr hsp => ⟨_, h cdv A outer s H E hr, ?_⟩)
  obtain ⟨hl, G, ds, d, sG, dd, e, k⟩ := hsp
  unfold runF at e
  split at e
  · rename_i hn
    let R : Hp := fun a => if G a = none then H a else none
    have hR : ∀ a o, R a = some o → G a = none ∧ H a = some o := fun a o q => by
      by_cases z : G a = none
      · exact ⟨z, by have := q; simp only [R, z, if_true] at this; exact this⟩
      · have := q; simp only [R, z, if_false] at this; cases this
    have hRi : ∀ a o, G a = none → H a = some o → R a = some o := fun a o z q => by simp only [R, z, if_true]; exact q
    have rep0 : Rep K R G H (ds.map Sl.dat ++ List.replicate (N.length - ps.length) Sl.un) (L2.start N vs) := by
      refine ⟨?_, fun a o q => (hR a o q).2, sG, fun a o q => (hR a o q).1, fun i s hs => ?_, fun i j c c' p h1 h2 _ _ => ?_⟩
      · simp [L2.start, dd.length, ← hn]
      · by_cases hi : i < ds.length
        · rw [List.getElem?_append_left (by simpa using hi), List.getElem?_map] at hs
          rw [List.getElem?_eq_getElem hi] at hs
          cases hs
          obtain ⟨v, hv, dv⟩ := dd.get (List.getElem?_eq_getElem hi)
          refine ⟨v, ?_, dv⟩
          show (vs.map some ++ _)[i]? = _
          rw [List.getElem?_append_left (by rw [List.length_map, dd.length]; exact hi), List.getElem?_map, hv]
          rfl
        · rw [List.getElem?_append_right (by simpa using hi), List.getElem?_replicate] at hs
          split at hs
          · cases hs; trivial
          · cases hs
      · exfalso
        by_cases hi : i < ds.length
        · rw [List.getElem?_append_left (by simpa using hi), List.getElem?_map, List.getElem?_eq_getElem hi] at h1
          cases h1
        · rw [List.getElem?_append_right (by simpa using hi), List.getElem?_replicate] at h1
          split at h1 <;> cases h1
    have fin : ∀ G' H' (σ' : St) (ρ' : Ro), Same G G' → Rep K R G' H' ρ' σ' → Gr G H G' H' := fun G' H' σ' ρ' s r => by
      refine ⟨fun a o q => ?_, s, r.subG, fun a o q1 q2 => ?_⟩
      · cases z : G a with
        | none => exact r.subR a o (hRi a o z q)
        | some u =>
          have := sG a u z
          rw [q] at this
          cases this
          exact r.subG a _ (s a _ z)
      · cases z : H a with
        | none => rfl
        | some u =>
          have := r.dis a u (hRi a u q1 z)
          rw [q2] at this; cases this
    cases q : body (ds.map Sl.dat ++ List.replicate (N.length - ps.length) Sl.un) with
    | none => rw [q] at e; cases e
    | some r =>
      obtain ⟨fl, ρ'⟩ := r
      rw [q] at e
      refine ⟨R, G, _, fl, ρ', rep0, q, ?_⟩
      cases fl with
      | nx => cases e; exact fun G' H' σ' s r _ => k G' H' _ (fin G' H' σ' _ s r) .non
      | bk => cases e
      | ct => cases e
      | rt d => cases e; exact fun G' H' σ' v s r _ dv => k G' H' v (fin G' H' σ' _ s r) dv
  · cases e
end QL
set_option Elab.async false
set_option linter.all false
set_option maxRecDepth 100000
set_option maxHeartbeats 1000000
namespace QL
open PySem PySem.Spec PyProof.Rows L2

/-! ### calls that are given objects of one's own, and the script -/
inductive Ar where
  | dat (d : D)
  | var (i : Nat)
inductive ArAll (K : Fr) (G : Hp) (σ : St) : List V → List Ar → Prop
  | nil : ArAll K G σ [] []
  | dat {v : V} {d : D} {vs : List V} {as : List Ar} : Dq K G v d → ArAll K G σ vs as → ArAll K G σ (v :: vs) (.dat d :: as)
  | var {v : V} {i : Nat} {vs : List V} {as : List Ar} : σ[i]? = some (some v) → ArAll K G σ vs as → ArAll K G σ (v :: vs) (.var i :: as)
theorem ArAll.mono {K : Fr} {G G' : Hp} {σ : St} (s : Same G G') : ∀ {vs : List V} {as : List Ar}, ArAll K G σ vs as → ArAll K G' σ vs as
  | _, _, .nil => .nil
  | _, _, .dat d t => .dat (Dq_mono s d) (ArAll.mono s t)
  | _, _, .var e t => .var e (ArAll.mono s t)
theorem ArAll.length {K : Fr} {G : Hp} {σ : St} : ∀ {vs : List V} {as : List Ar}, ArAll K G σ vs as → vs.length = as.length
  | _, _, .nil => rfl
  | _, _, .dat _ t => by simp [ArAll.length t]
  | _, _, .var _ t => by simp [ArAll.length t]
theorem ArAll.get {K : Fr} {G : Hp} {σ : St} : ∀ {vs : List V} {as : List Ar} {k : Nat} {a : Ar}, ArAll K G σ vs as → as[k]? = some a → ∃ v, vs[k]? = some v ∧ (match a with | .dat d => Dq K G v d | .var i => σ[i]? = some (some v))
  | _, _, _, _, .nil, e => by simp at e
  | _, _, 0, _, .dat d _, e => by simp at e; subst e; exact ⟨_, rfl, d⟩
  | _, _, 0, _, .var d _, e => by simp at e; subst e; exact ⟨_, rfl, d⟩
  | _, _, k + 1, a, .dat _ t, e => by
    obtain ⟨v, h1, h2⟩ := ArAll.get (k := k) t (by simpa using e)
    exact ⟨v, by simpa using h1, h2⟩
  | _, _, k + 1, a, .var _ t, e => by
    obtain ⟨v, h1, h2⟩ := ArAll.get (k := k) t (by simpa using e)
    exact ⟨v, by simpa using h1, h2⟩
def tMY (K : Fr) (m : M (List Ar)) : TA := fun σ H Q => ∃ R G ρ as ρ', Rep K R G H ρ σ ∧ m ρ = some (as, ρ') ∧ ∀ G' H' vs, Same G G' → Rep K R G' H' ρ' σ → ArAll K G' σ vs as → Q vs H'
abbrev QY (X : Cx) (e : List Expr) (m : M (List Ar)) : Prop := PA X e (tMY X.K m)
def yNil : M (List Ar) := fun ρ => some ([], ρ)
def yDat (a : M D) (r : M (List Ar)) : M (List Ar) := fun ρ => (a ρ).bind fun p => (r p.2).map fun q => (.dat p.1 :: q.1, q.2)
def isRef : Sl → Bool
  | .own _ => true
  | .scr _ => true
  | _ => false
def yVar (i : Nat) (r : M (List Ar)) : M (List Ar) := fun ρ => (ρ[i]?).bind fun s => if isRef s then (r ρ).map fun q => (.var i :: q.1, q.2) else none
def toSl (ρ : Ro) : Ar → Sl
  | .dat d => .dat d
  | .var i => (ρ[i]?).getD .un
def ownIx (ρ : Ro) : List Ar → List Nat
  | [] => []
  | .dat _ :: as => ownIx ρ as
  | .var i :: as => match ρ[i]? with
    | some (.own _) => i :: ownIx ρ as
    | _ => ownIx ρ as
def clr : List Ar → Ro → Ro
  | [], ρ => ρ
  | .dat _ :: as, ρ => clr as ρ
  | .var i :: as, ρ => clr as (match ρ[i]? with | some (.own _) => ρ.set i .un | _ => ρ)
def put : List Ar → List Sl → Ro → Ro
  | [], _, ρ => ρ
  | _ :: _, [], ρ => ρ
  | .dat _ :: as, _ :: ss, ρ => put as ss ρ
  | .var i :: as, s :: ss, ρ => put as ss (match s with | .own c => ρ.set i (.own c) | _ => ρ)
def eAppO (F : List Sl → Option (D × List Sl)) (m : M (List Ar)) : M D := fun ρ => (m ρ).bind fun p => if (ownIx p.2 p.1).Nodup then (F (p.1.map (toSl p.2))).map fun r => (r.1, put p.1 r.2 (clr p.1 p.2)) else none
theorem clr_get : ∀ (as : List Ar) (ρ : Ro) (j : Nat) (s : Sl), (clr as ρ)[j]? = some s → s = .un ∨ (ρ[j]? = some s ∧ ((∃ c, s = .own c) → Ar.var j ∉ as))
  | [], ρ, j, s, h => .inr ⟨h, fun _ z => nomatch z⟩
  | .dat d :: as, ρ, j, s, h => by
    rcases clr_get as ρ j s h with e | ⟨e, n⟩
    · exact .inl e
    · exact .inr ⟨e, fun c z => (List.mem_cons.mp z).elim (fun z => nomatch z) (n c)⟩
  | .var i :: as, ρ, j, s, h => by
    unfold clr at h
    rcases clr_get as _ j s h with e | ⟨e, n⟩
    · exact .inl e
    · split at e
      · rename_i c hc
        by_cases hij : i = j
        · subst hij
          rw [List.getElem?_set] at e
          simp only [if_true] at e
          split at e
          · exact .inl (Option.some.inj e).symm
          · cases e
        · rw [List.getElem?_set_ne hij] at e
          refine .inr ⟨e, fun c z => ?_⟩
          rcases List.mem_cons.mp z with z | z
          · cases z; exact hij rfl
          · exact n c z
      · rename_i hc
        refine .inr ⟨e, fun ⟨c, hs⟩ z => ?_⟩
        rcases List.mem_cons.mp z with z | z
        · cases z
          subst hs
          exact hc c e
        · exact n ⟨c, hs⟩ z
theorem put_get : ∀ (as : List Ar) (ss : List Sl) (ρ : Ro) (j : Nat) (s : Sl), (put as ss ρ)[j]? = some s → ρ[j]? = some s ∨ ∃ (k : Nat) (c : Ow), as[k]? = some (.var j) ∧ ss[k]? = some (.own c) ∧ s = .own c
  | [], _, ρ, j, s, h => .inl h
  | .dat _ :: _, [], ρ, j, s, h => .inl h
  | .var _ :: _, [], ρ, j, s, h => .inl h
  | .dat _ :: as, t :: ss, ρ, j, s, h => by
    rcases put_get as ss ρ j s h with e | ⟨k, c, a, b, e⟩
    · exact .inl e
    · exact .inr ⟨k + 1, c, by simpa using a, by simpa using b, e⟩
  | .var i :: as, t :: ss, ρ, j, s, h => by
    unfold put at h
    rcases put_get as ss _ j s h with e | ⟨k, c, a, b, e⟩
    · split at e
      · rename_i c
        by_cases hij : i = j
        · subst hij
          rw [List.getElem?_set] at e
          simp only [if_true] at e
          split at e
          · exact .inr ⟨0, c, rfl, rfl, (Option.some.inj e).symm⟩
          · cases e
        · rw [List.getElem?_set_ne hij] at e
          exact .inl e
      · exact .inl e
    · exact .inr ⟨k + 1, c, by simpa using a, by simpa using b, e⟩
theorem clr_length : ∀ (as : List Ar) (ρ : Ro), (clr as ρ).length = ρ.length
  | [], ρ => rfl
  | .dat _ :: as, ρ => clr_length as ρ
  | .var i :: as, ρ => by
    unfold clr
    rw [clr_length]
    split <;> simp
theorem put_length : ∀ (as : List Ar) (ss : List Sl) (ρ : Ro), (put as ss ρ).length = ρ.length
  | [], _, ρ => rfl
  | .dat _ :: _, [], ρ => rfl
  | .var _ :: _, [], ρ => rfl
  | .dat _ :: as, _ :: ss, ρ => put_length as ss ρ
  | .var i :: as, s :: ss, ρ => by
    unfold put
    rw [put_length]
    split <;> simp
theorem ownIx_mem {ρ : Ro} : ∀ {as : List Ar} {k : Nat} {i : Nat} {c : Ow}, as[k]? = some (.var i) → ρ[i]? = some (.own c) → i ∈ ownIx ρ as
  | [], _, _, _, h, _ => by simp at h
  | .dat _ :: as, 0, _, _, h, _ => by simp at h
  | .var j :: as, 0, i, c, h, e => by
    simp at h
    subst h
    unfold ownIx
    rw [e]
    exact List.mem_cons_self
  | .dat _ :: as, k + 1, i, c, h, e => ownIx_mem (as := as) (k := k) (by simpa using h) e
  | .var j :: as, k + 1, i, c, h, e => by
    have := ownIx_mem (as := as) (k := k) (i := i) (c := c) (by simpa using h) e
    unfold ownIx
    split
    · exact List.mem_cons_of_mem _ this
    · exact this
theorem ownIx_inj {ρ : Ro} : ∀ {as : List Ar} {k l : Nat} {i : Nat} {c : Ow}, (ownIx ρ as).Nodup → as[k]? = some (.var i) → as[l]? = some (.var i) → ρ[i]? = some (.own c) → k = l
  | [], _, _, _, _, _, h, _, _ => by simp at h
  | .dat _ :: as, 0, _, _, _, _, h, _, _ => by simp at h
  | .dat _ :: as, _ + 1, 0, _, _, _, _, h, _ => by simp at h
  | .dat _ :: as, k + 1, l + 1, i, c, nd, h1, h2, e => by
    have := ownIx_inj (as := as) (k := k) (l := l) (i := i) (c := c) nd (by simpa using h1) (by simpa using h2) e
    omega
  | .var j :: as, 0, 0, i, c, nd, h1, h2, e => rfl
  | .var j :: as, 0, l + 1, i, c, nd, h1, h2, e => by
    simp at h1
    subst h1
    unfold ownIx at nd
    rw [e] at nd
    exact absurd (ownIx_mem (as := as) (k := l) (by simpa using h2) e) (List.nodup_cons.mp nd).1
  | .var j :: as, k + 1, 0, i, c, nd, h1, h2, e => by
    simp at h2
    subst h2
    unfold ownIx at nd
    rw [e] at nd
    exact absurd (ownIx_mem (as := as) (k := k) (by simpa using h1) e) (List.nodup_cons.mp nd).1
  | .var j :: as, k + 1, l + 1, i, c, nd, h1, h2, e => by
    have nd' : (ownIx ρ as).Nodup := by
      unfold ownIx at nd
      split at nd
      · exact (List.nodup_cons.mp nd).2
      · exact nd
    have := ownIx_inj (as := as) (k := k) (l := l) (i := i) (c := c) nd' (by simpa using h1) (by simpa using h2) e
    omega
structure FOk (n : Nat) (F : List Sl → Option (D × List Sl)) : Prop where
  len : ∀ ss r, F ss = some r → ss.length = n
  own : ∀ ss d ss' (l : Nat) (c : Ow), F ss = some (d, ss') → ss'[l]? = some (.own c) → ∃ c0, ss[l]? = some (.own c0)
def spO (K : Fr) (F : List Sl → Option (D × List Sl)) (n : Nat) : Sp := fun vs H Q _ => vs.length = n ∧ ∃ R G ss d ss', Rep K R G H ss (vs.map some) ∧ F ss = some (d, ss') ∧ ∀ G' H' v, Same G G' → Rep K R G' H' ss' (vs.map some) → Dq K G' v d → Q v H'
section
variable {X : Cx} {e : Expr} {es : List Expr} {pos p : Pos}
theorem qy_nil : QY X [] yNil := PA.imp pa_nil fun σ H Q h => by
  obtain ⟨R, G, ρ, d, ρ', rp, e, k⟩ := h
  cases e
  exact k G H [] (.refl _) rp .nil
theorem qy_dat {m : M D} {n : M (List Ar)} (ha : QE X e m) (hr : QY X es n) (hs : starEach (e :: es) X.env = (false, eval e X.env) :: starEach es X.env := by rfl) : QY X (e :: es) (yDat m n) := by
  refine PA.imp (pa_cons ha hr hs) fun σ H Q h => ?_
  obtain ⟨R, G, ρ, d, ρ', rp, e, k⟩ := h
  unfold yDat at e
  rw [Option.bind_eq_some_iff] at e
  obtain ⟨⟨x, ρ1⟩, h1, e⟩ := e
  rw [Option.map_eq_some_iff] at e
  obtain ⟨⟨y, ρ2⟩, h2, e⟩ := e
  cases e
  refine ⟨R, G, ρ, x, ρ1, rp, h1, fun G1 H1 v1 s1 r1 d1 => ?_⟩
  refine ⟨R, G1, ρ1, y, _, r1, h2, fun G2 H2 v2 s2 r2 d2 => ?_⟩
  exact k G2 H2 (v1 :: v2) (s1.trans s2) r2 (.dat (Dq_mono s2 d1) d2)
theorem qy_var (i : Nat) {x : Str} {n : M (List Ar)} (hr : QY X es n) (hN : X.N[i]? = some x := by rfl) (hv : Vis X.env.scope x := by first | exact Or.inl rfl | exact Or.inr (Or.inl rfl) | exact Or.inr (Or.inr rfl)) (hd : (x == ("__debug__" : Str)) = false := by decide)
    (hcd : (x == ("__classdict__" : Str)) = false := by decide) (hs : starEach (.Name x p :: es) X.env = (false, eval (.Name x p) X.env) :: starEach es X.env := by rfl) : QY X (.Name x p :: es) (yVar i n) := by
  refine PA.imp (pa_cons (pe_var hN hv hd hcd) hr hs) fun σ H Q h => ?_
  obtain ⟨R, G, ρ, d, ρ', rp, e, k⟩ := h
  unfold yVar at e
  rw [Option.bind_eq_some_iff] at e
  obtain ⟨s, h1, e⟩ := e
  split at e
  · rename_i href
    rw [Option.map_eq_some_iff] at e
    obtain ⟨⟨y, ρ2⟩, h2, e⟩ := e
    cases e
    have so := rp.slot i s h1
    obtain ⟨v, ev⟩ : ∃ v, σ[i]? = some (some v) := by
      cases s with
      | un => cases href
      | dat d => cases href
      | scr ns => obtain ⟨a, e, _⟩ := so; exact ⟨_, e⟩
      | ref t => cases href
      | own c => obtain ⟨a, _, e, _⟩ := so; exact ⟨_, e⟩
    refine ⟨v, ev, R, G, ρ, y, _, rp, h2, fun G2 H2 v2 s2 r2 d2 => ?_⟩
    exact k G2 H2 (v :: v2) s2 r2 (.var ev d2)
  · cases e
theorem qe_callO {x : Str} {k : Nat} {f : Addr} {fd : FuncData} {ps : List Str} {F : List Sl → Option (D × List Sl)} {n : Nat} {m : M (List Ar)} (FO : FnOk X.prog X.w X.K X.mg X.base CX0 k f fd ps (spO X.K F n)) (hr : Room k X.A) (hm : X.mg x = some (.ref f)) (hk : PySem.W.keepIn X.K (.ref f) = true) (hb : Binds X.K fd ps [])
    (ha : QY X (e :: es) m) (hF : FOk n F) (hg : Gl X x := by rfl) (hdb : (x == ("__debug__" : Str)) = false := by decide) (he : starEach (e :: es) X.env = (false, eval e X.env) :: starEach es X.env := by rfl) (hpl : (backTo pos (starEach es X.env)).any (·.1) = false := by rfl) :
    QE X (.Call (.Name x p) (e :: es) [] pos) (eAppO F m) := by
  refine PE.imp (pe_call (E := fun _ _ _ => False) FO hr hg hm hk hb .nil pass0 ha hdb he hpl) fun σ H Q h => ?_
  obtain ⟨R, G, ρ, d, ρ', rp, e, k⟩ := h
  unfold eAppO at e
  rw [Option.bind_eq_some_iff] at e
  obtain ⟨⟨as, ρ1⟩, h1, e⟩ := e
  simp only at e
  split at e
  · rename_i nd
    rw [Option.map_eq_some_iff] at e
    obtain ⟨⟨d', ss'⟩, h2, e⟩ := e
    cases e
    refine ⟨R, G, ρ, as, ρ1, rp, h1, fun G1 H1 vs s1 r1 d1 => ?_⟩
    show spO X.K F n (vs ++ []) H1 Q _
    rw [List.append_nil]
    refine ⟨by rw [d1.length, ← hF.len _ _ h2, List.length_map], ?_⟩
    -- the addresses that are handed on
    let Pd : Addr → Prop := fun a => ∃ (l i : Nat) (c : Ow), as[l]? = some (.var i) ∧ ρ1[i]? = some (.own c) ∧ σ[i]? = some (some (.ref a))
    let Rc : Hp := fun a => open Classical in if G1 a = none ∧ ¬ Pd a then H1 a else none
    have hRc : ∀ a o, Rc a = some o → (G1 a = none ∧ ¬ Pd a) ∧ H1 a = some o := fun a o q => by
      have q' : (open Classical in if G1 a = none ∧ ¬ Pd a then H1 a else none) = some o := q
      split at q'
      · rename_i z; exact ⟨z, q'⟩
      · cases q'
    have hRi : ∀ a o, G1 a = none → ¬ Pd a → H1 a = some o → Rc a = some o := fun a o z1 z2 q => by
      show (open Classical in if G1 a = none ∧ ¬ Pd a then H1 a else none) = some o
      rw [if_pos ⟨z1, z2⟩]; exact q
    have hRn : ∀ a, Pd a → Rc a = none := fun a z => by
      show (open Classical in if G1 a = none ∧ ¬ Pd a then H1 a else none) = none
      rw [if_neg fun q => q.2 z]
    have vget : ∀ (l : Nat) (v : V), vs[l]? = some v → (vs.map some)[l]? = some (some v) := fun l v h => by rw [List.getElem?_map, h]; rfl
    have rep : Rep X.K Rc G1 H1 (as.map (toSl ρ1)) (vs.map some) := by
      refine ⟨by simp [d1.length], fun a o q => (hRc a o q).2, r1.subG, fun a o q => (hRc a o q).1.1, fun l s hs => ?_, fun l l' c c' q e1 e2 e3 e4 => ?_⟩
      · rw [List.getElem?_map] at hs
        cases ha : as[l]? with
        | none => rw [ha] at hs; cases hs
        | some a =>
          rw [ha] at hs
          cases hs
          obtain ⟨v, hv, dv⟩ := d1.get ha
          rw [vget l v hv]
          cases a with
          | dat d => exact ⟨v, rfl, dv⟩
          | var i =>
            show SlOk X.K Rc G1 H1 ((ρ1[i]?).getD .un) _
            cases hi : ρ1[i]? with
            | none => trivial
            | some s =>
              have so := r1.slot i s hi
              have dv : σ[i]? = some (some v) := dv
              rw [dv] at so
              cases s with
              | un => trivial
              | dat d => exact so
              | scr ns => exact so
              | ref t => exact so
              | own c =>
                obtain ⟨q, ho, e, a1, a2, a3, a4⟩ := so
                cases e
                exact ⟨q, ho, rfl, a1, a2, hRn q ⟨l, i, c, ha, hi, dv⟩, a4⟩
      · have own : ∀ (l : Nat) (c : Ow), (as.map (toSl ρ1))[l]? = some (.own c) → (vs.map some)[l]? = some (some (.ref q)) → ∃ i, as[l]? = some (.var i) ∧ ρ1[i]? = some (.own c) ∧ σ[i]? = some (some (.ref q)) := fun l c e1 e3 => by
          rw [List.getElem?_map] at e1
          cases ha : as[l]? with
          | none => rw [ha] at e1; cases e1
          | some a =>
            rw [ha] at e1
            obtain ⟨v, hv, dv⟩ := d1.get ha
            rw [vget l v hv] at e3
            cases e3
            cases a with
            | dat d => cases e1
            | var i =>
              refine ⟨i, rfl, ?_, dv⟩
              have e1' : (ρ1[i]?).getD .un = .own c := Option.some.inj e1
              cases hi : ρ1[i]? with
              | none => rw [hi] at e1'; cases e1'
              | some s => rw [hi] at e1'; cases e1'; rfl
        obtain ⟨i, a1, b1, c1⟩ := own l c e1 e3
        obtain ⟨j, a2, b2, c2⟩ := own l' c' e2 e4
        have : i = j := r1.apart i j c c' q b1 b2 c1 c2
        subst this
        exact ownIx_inj nd a1 a2 b1
    refine ⟨Rc, G1, _, d', ss', rep, h2, fun G2 H2 v s2 r2 dv => k G2 H2 v (s1.trans s2) ?_ dv⟩
    -- back in the caller
    have keepH : ∀ a o, H1 a = some o → G1 a = none → ¬ Pd a → H2 a = some o ∧ G2 a = none := fun a o q g np => ⟨r2.subR a o (hRi a o g np q), r2.dis a o (hRi a o g np q)⟩
    have nPR : ∀ a o, R a = some o → ¬ Pd a := fun a o q ⟨l, i, c, _, hi, es⟩ => by
      obtain ⟨q', ho, e', _, _, rq, _⟩ := r1.slot i _ hi
      rw [es] at e'
      cases e'
      rw [q] at rq; cases rq
    have good : ∀ (j : Nat) (s : Sl), (put as ss' (clr as ρ1))[j]? = some s → SlOk X.K R G2 H2 s σ[j]? ∧ ∀ c, s = .own c → ∃ c', ρ1[j]? = some (.own c') := fun j s hs => by
      rcases put_get as ss' _ j s hs with hs | ⟨l, c, al, sl, rfl⟩
      · rcases clr_get as ρ1 j s hs with rfl | ⟨hs, nv⟩
        · exact ⟨trivial, fun c z => nomatch z⟩
        · have so := r1.slot j s hs
          cases s with
          | un => exact ⟨trivial, fun c z => nomatch z⟩
          | dat d => obtain ⟨v, e, x⟩ := so; exact ⟨⟨v, e, Dq_mono s2 x⟩, fun c z => nomatch z⟩
          | scr ns => obtain ⟨v, e, x⟩ := so; exact ⟨⟨v, e, s2.seq x⟩, fun c z => nomatch z⟩
          | ref t => exact ⟨SlT_mono s2 so, fun c z => nomatch z⟩
          | own c =>
            obtain ⟨q, ho, e, a1, a2, a3, a4⟩ := so
            have np : ¬ Pd q := fun ⟨l, i, c', al, hi, es⟩ => by
              have : i = j := r1.apart i j c' c q hi hs es e
              subst this
              exact nv ⟨c, rfl⟩ (List.mem_of_getElem? al)
            obtain ⟨b1, b2⟩ := keepH q ho a1 a2 np
            exact ⟨⟨q, ho, e, b1, b2, a3, OwOk_mono s2 a4⟩, fun c' z => ⟨c, hs⟩⟩
      · obtain ⟨v, hv, dv⟩ := d1.get al
        have dv : σ[j]? = some (some v) := dv
        have so := r2.slot l _ sl
        rw [vget l v hv] at so
        obtain ⟨q, ho, e, a1, a2, a3, a4⟩ := so
        cases e
        -- was the slot own? the callee's slot was: else it could not be
        have hown : ∃ c', ρ1[j]? = some (.own c') := by
          obtain ⟨c0, hc0⟩ : ∃ c0, (as.map (toSl ρ1))[l]? = some (.own c0) := by
            exact hF.own _ _ _ l c h2 sl
          rw [List.getElem?_map, al] at hc0
          have e1' : (ρ1[j]?).getD .un = .own c0 := Option.some.inj hc0
          cases hi : ρ1[j]? with
          | none => rw [hi] at e1'; cases e1'
          | some s => rw [hi] at e1'; cases e1'; exact ⟨_, rfl⟩
        refine ⟨⟨q, ho, dv, a1, a2, ?_, a4⟩, fun c' _ => hown⟩
        obtain ⟨c', hc'⟩ := hown
        obtain ⟨q', ho', e', _, _, rq, _⟩ := r1.slot j _ hc'
        rw [dv] at e'
        cases e'
        exact rq
    refine ⟨by rw [put_length, clr_length]; exact r1.len, fun a o q => ?_, r2.subG, fun a o q => ?_, fun j s hs => (good j s hs).1, fun i j c c' q e1 e2 e3 e4 => ?_⟩
    · exact (keepH a o (r1.subR a o q) (r1.dis a o q) (nPR a o q)).1
    · exact (keepH a o (r1.subR a o q) (r1.dis a o q) (nPR a o q)).2
    · obtain ⟨c1, h1⟩ := (good i _ e1).2 c rfl
      obtain ⟨c2, h2⟩ := (good j _ e2).2 c' rfl
      exact r1.apart i j c1 c2 q h1 h2 e3 e4
  · cases e
end

/-! ### a def that is given objects of its caller's -/
def pick : Sl → Sl → Sl
  | .own _, .own c => .own c
  | .own _, _ => .un
  | s, _ => s
def backO : List Sl → Ro → List Sl
  | [], _ => []
  | s :: ss, [] => s :: backO ss []
  | s :: ss, r :: rs => pick s r :: backO ss rs
/-- all own things stand at the places os -/
def ownsIn (os : List Nat) : Nat → List Sl → Bool
  | _, [] => true
  | i, .own _ :: ss => os.contains i && ownsIn os (i + 1) ss
  | i, .un :: ss => ownsIn os (i + 1) ss
  | i, .dat _ :: ss => ownsIn os (i + 1) ss
  | i, .scr _ :: ss => ownsIn os (i + 1) ss
  | i, .ref _ :: ss => ownsIn os (i + 1) ss
theorem ownsIn_get {os : List Nat} : ∀ (ss : List Sl) (i l : Nat) (c : Ow), ownsIn os i ss = true → ss[l]? = some (.own c) → i + l ∈ os
  | [], i, l, c, _, h => by simp at h
  | .own c0 :: ss, i, 0, c, h, _ => by
    unfold ownsIn at h
    rw [Bool.and_eq_true] at h
    simpa using h.1
  | .un :: ss, i, 0, c, h, e => by simp at e
  | .dat _ :: ss, i, 0, c, h, e => by simp at e
  | .scr _ :: ss, i, 0, c, h, e => by simp at e
  | .ref _ :: ss, i, 0, c, h, e => by simp at e
  | .own c0 :: ss, i, l + 1, c, h, e => by
    unfold ownsIn at h
    rw [Bool.and_eq_true] at h
    have := ownsIn_get ss (i + 1) l c h.2 (by simpa using e)
    rw [show i + (l + 1) = i + 1 + l by omega]; exact this
  | .un :: ss, i, l + 1, c, h, e => by
    have := ownsIn_get ss (i + 1) l c h (by simpa using e)
    rw [show i + (l + 1) = i + 1 + l by omega]; exact this
  | .dat _ :: ss, i, l + 1, c, h, e => by
    have := ownsIn_get ss (i + 1) l c h (by simpa using e)
    rw [show i + (l + 1) = i + 1 + l by omega]; exact this
  | .scr _ :: ss, i, l + 1, c, h, e => by
    have := ownsIn_get ss (i + 1) l c h (by simpa using e)
    rw [show i + (l + 1) = i + 1 + l by omega]; exact this
  | .ref _ :: ss, i, l + 1, c, h, e => by
    have := ownsIn_get ss (i + 1) l c h (by simpa using e)
    rw [show i + (l + 1) = i + 1 + l by omega]; exact this
def endO (ss : List Sl) : Fl × Ro → Option (D × List Sl)
  | (.rt d, ρ) => some (d, backO ss ρ)
  | (.nx, ρ) => some (.none, backO ss ρ)
  | _ => none
def runO (os : List Nat) (n N : Nat) (body : MS) : List Sl → Option (D × List Sl) := fun ss => if ss.length = n ∧ n ≤ N ∧ ownsIn os 0 ss = true then (body (ss ++ List.replicate (N - n) Sl.un)).bind fun p => if n ≤ p.2.length then endO ss p else none else none
theorem backO_get : ∀ (ss : List Sl) (ρ : Ro) (l : Nat) (s : Sl), ss.length ≤ ρ.length → (backO ss ρ)[l]? = some s → ∃ s0 r, ss[l]? = some s0 ∧ ρ[l]? = some r ∧ s = pick s0 r
  | [], _, l, s, _, h => by simp [backO] at h
  | s0 :: ss, [], l, s, hl, h => by simp at hl
  | s0 :: ss, r :: rs, 0, s, hl, h => by
    simp [backO] at h
    exact ⟨s0, r, rfl, rfl, h.symm⟩
  | s0 :: ss, r :: rs, l + 1, s, hl, h => by
    have h' : (backO ss rs)[l]? = some s := by simpa [backO] using h
    obtain ⟨a, b, c, d, e⟩ := backO_get ss rs l s (by simpa using hl) h'
    exact ⟨a, b, by simpa using c, by simpa using d, e⟩
theorem backO_length : ∀ (ss : List Sl) (ρ : Ro), (backO ss ρ).length = ss.length
  | [], _ => rfl
  | s :: ss, [] => by simp [backO, backO_length ss []]
  | s :: ss, r :: rs => by simp [backO, backO_length ss rs]
/-- the body keeps how many slots there are -/
def LenOk (b : MS) : Prop := ∀ ρ f ρ', b ρ = some (f, ρ') → ρ'.length = ρ.length
theorem pick_own {s r : Sl} {c : Ow} (h : pick s r = .own c) : (∃ c0, s = .own c0) ∧ r = .own c := by
  cases s with
  | un => cases h
  | dat d => cases h
  | scr ns => cases h
  | ref t => cases h
  | own c0 =>
    refine ⟨⟨c0, rfl⟩, ?_⟩
    cases r <;> first | (cases h; rfl) | cases h
theorem backO_own : ∀ (ss : List Sl) (ρ : Ro) (l : Nat) (c : Ow), (backO ss ρ)[l]? = some (.own c) → ∃ c0, ss[l]? = some (.own c0)
  | [], _, l, c, h => by simp [backO] at h
  | s0 :: ss, [], 0, c, h => by simp [backO] at h; exact ⟨c, by simp [h]⟩
  | s0 :: ss, [], l + 1, c, h => by
    obtain ⟨c0, e⟩ := backO_own ss [] l c (by simpa [backO] using h)
    exact ⟨c0, by simpa using e⟩
  | s0 :: ss, r :: rs, 0, c, h => by
    simp [backO] at h
    obtain ⟨⟨c0, e⟩, _⟩ := pick_own h
    exact ⟨c0, by simp [e]⟩
  | s0 :: ss, r :: rs, l + 1, c, h => by
    obtain ⟨c0, e⟩ := backO_own ss rs l c (by simpa [backO] using h)
    exact ⟨c0, by simpa using e⟩
theorem runO_ok {os : List Nat} {n N : Nat} {body : MS} : FOk n (runO os n N body) where
  len := by
    intro ss r h
    unfold runO at h
    split at h
    · rename_i z; exact z.1
    · cases h
  own := by
    intro ss d ss' l c h e
    unfold runO at h
    split at h
    · rw [Option.bind_eq_some_iff] at h
      obtain ⟨⟨f, ρ'⟩, h1, h⟩ := h
      split at h
      · cases f <;> cases h
        · exact backO_own _ _ l c e
        · exact backO_own _ _ l c e
      · cases h
    · cases h
theorem fOk0 {n : Nat} : FOk n (fun _ => none) := ⟨(fun _ _ h => nomatch h), (fun _ _ _ _ _ h => nomatch h)⟩
/-- os: the slots that callers' objects come to; they are never set -/
theorem fnO {P : Program} {w : World} {K : Fr} {mg : Str → Option Value} {base : Heap} {x qual : Str} {st : Stmt} {f : Addr} {fd : FuncData} {N ps : List Str} {k : Nat} {W : List Nat} {body : MS} (F : Fun K x qual st f fd) (S : FnScope N ps (defScope st))
    (h : ∀ (cdv : Value) (A : Around) (outer : List Env) (s : Shared) (H : Hp) (E : XK), Room k (A.deeper (envOfC qual (defScope st) s.heap.objs.size f cdv)) → QSs (cxOf CX0 P w K mg base N qual (defScope st) f cdv A outer s H E).nox W (defBody st) body)
    (os : List Nat) (hW : ∀ i ∈ os, i ∉ W) (hN : ps.length ≤ N.length := by decide) : FnOk P w K mg base CX0 (k + 1) f fd ps (spO K (runO os ps.length N.length body) ps.length) := by
  refine F.ok S (fun vs H Q E h => h.1) (fun cdv A outer s H vs Q E hr hsp => ⟨_, h cdv A outer s H E hr, ?_⟩)
  obtain ⟨hl, R, G, ss, d, ss', rp, e, k⟩ := hsp
  unfold runO at e
  split at e
  · rename_i hn
    obtain ⟨hn, _, ho⟩ := hn
    rw [Option.bind_eq_some_iff] at e
    obtain ⟨⟨fl, ρ'⟩, h1, e⟩ := e
    simp only at e
    by_cases hlen : ps.length ≤ ρ'.length
    rotate_left
    · rw [if_neg hlen] at e; cases e
    rw [if_pos hlen] at e
    have hss : ss.length = vs.length := by rw [hn, hl]
    have sget : ∀ l : Nat, l < vs.length → (L2.start N vs)[l]? = (vs.map some)[l]? := fun l hl' => by
      show (vs.map some ++ _)[l]? = _
      rw [List.getElem?_append_left (by simpa using hl')]
    have rep0 : Rep K R G H (ss ++ List.replicate (N.length - ps.length) Sl.un) (L2.start N vs) := by
      have key : ∀ (i : Nat) (t : Sl), (ss ++ List.replicate (N.length - ps.length) Sl.un)[i]? = some t → t = .un ∨ (ss[i]? = some t ∧ (L2.start N vs)[i]? = (vs.map some)[i]?) := fun i t ht => by
        by_cases hi : i < ss.length
        · rw [List.getElem?_append_left hi] at ht
          exact .inr ⟨ht, sget i (by rw [← hss]; exact hi)⟩
        · rw [List.getElem?_append_right (by omega), List.getElem?_replicate] at ht
          split at ht
          · exact .inl (Option.some.inj ht).symm
          · cases ht
      refine ⟨?_, rp.subR, rp.subG, rp.dis, fun i t ht => ?_, fun i j c c' p h1 h2 h3 h4 => ?_⟩
      · simp [L2.start, hss, hl]
      · rcases key i t ht with rfl | ⟨a, b⟩
        · trivial
        · rw [b]; exact rp.slot i t a
      · rcases key i _ h1 with z | ⟨a, b⟩
        · cases z
        · rcases key j _ h2 with z | ⟨a2, b2⟩
          · cases z
          · rw [b] at h3; rw [b2] at h4
            exact rp.apart i j c c' p a a2 h3 h4
    have fin : ∀ G' H' (σ' : L2.St), Same G G' → Rep K R G' H' ρ' σ' → Frm W (L2.start N vs) σ' → ss.length ≤ ρ'.length → Rep K R G' H' (backO ss ρ') (vs.map some) := fun G' H' σ' sG r fr hlen => by
      have own : ∀ (l : Nat) (c : Ow), (backO ss ρ')[l]? = some (.own c) → ρ'[l]? = some (.own c) ∧ σ'[l]? = (vs.map some)[l]? := fun l c hs => by
        obtain ⟨s0, r0, a, b, e⟩ := backO_get ss ρ' l _ hlen hs
        obtain ⟨⟨c0, rfl⟩, rfl⟩ := pick_own e.symm
        refine ⟨b, ?_⟩
        have hm := ownsIn_get ss 0 l c0 ho a
        rw [Nat.zero_add] at hm
        rw [fr l (hW l hm), sget l (by rw [← hss]; exact (List.getElem?_eq_some_iff.mp a).1)]
      refine ⟨by rw [backO_length, List.length_map]; exact hss, r.subR, r.subG, r.dis, fun l t ht => ?_, fun i j c c' p h1 h2 h3 h4 => ?_⟩
      · obtain ⟨s0, r0, a, b, e⟩ := backO_get ss ρ' l t hlen ht
        subst e
        have so := rp.slot l s0 a
        cases s0 with
        | un => trivial
        | dat d => obtain ⟨v, e, x⟩ := so; exact ⟨v, e, Dq_mono sG x⟩
        | scr ns => obtain ⟨v, e, x⟩ := so; exact ⟨v, e, sG.seq x⟩
        | ref t => exact SlT_mono sG so
        | own c0 =>
          cases r0 with
          | un => trivial
          | dat d => trivial
          | scr ns => trivial
          | ref t => trivial
          | own c =>
            obtain ⟨o1, o2⟩ := own l c ht
            have := r.slot l _ o1
            rw [o2] at this
            exact this
      · obtain ⟨a1, b1⟩ := own i c h1
        obtain ⟨a2, b2⟩ := own j c' h2
        exact r.apart i j c c' p a1 a2 (by rw [b1]; exact h3) (by rw [b2]; exact h4)
    refine ⟨R, G, _, fl, ρ', rep0, h1, ?_⟩
    have hlenσ : ∀ G' H' (σ' : L2.St), Rep K R G' H' ρ' σ' → Frm W (L2.start N vs) σ' → True := fun _ _ _ _ _ => trivial
    cases fl with
    | nx =>
      cases e
      intro G' H' σ' s r fr
      exact k G' H' _ s (fin G' H' σ' s r fr (by rw [hn]; exact hlen)) .non
    | bk => cases e
    | ct => cases e
    | rt d =>
      cases e
      exact fun G' H' σ' v s r fr dv => k G' H' v s (fin G' H' σ' s r fr (by rw [hn]; exact hlen)) dv
  · cases e
end QL
set_option Elab.async false
set_option linter.all false
set_option maxRecDepth 100000
set_option maxHeartbeats 1000000
namespace QL
open PySem PySem.Spec PyProof.Rows L2

/-! ### the script -/
def scrAt (ρ : Ro) (i : Nat) : Option (List Int) := match ρ[i]? with
  | some (.scr ns) => some ns
  | _ => none
theorem scrAt_some {ρ : Ro} {i : Nat} {ns : List Int} (h : scrAt ρ i = some ns) : ρ[i]? = some (.scr ns) := by
  unfold scrAt at h
  split at h
  · cases h; assumption
  · cases h
def eLenS (i : Nat) : M D := fun ρ => (scrAt ρ i).map fun ns => (.int ns.length, ρ)
def eIxS (i : Nat) (a : M D) : M D := fun ρ => (scrAt ρ i).bind fun ns => (a ρ).bind fun p => match p.1 with
  | .int j => (atI ns j).map fun n => (.int n, p.2)
  | _ => none
def eEqNilS (i : Nat) : M D := fun ρ => (scrAt ρ i).map fun ns => (.bool ns.isEmpty, ρ)
def eNeNilO (i : Nat) : M D := fun ρ => (ownL ρ i).bind fun ds => if SeqAt.shaped (.list ds) = true then some (.bool (!ds.isEmpty), ρ) else none
def eEqNilO (i : Nat) : M D := fun ρ => (ownL ρ i).bind fun ds => if SeqAt.shaped (.list ds) = true then some (.bool ds.isEmpty, ρ) else none
theorem canLay_ints : ∀ ns : List Int, PyData.canLayAll0 (ns.map PyData.int) = true
  | [] => rfl
  | n :: ns => by
    rw [List.map_cons]
    unfold PyData.canLayAll0
    rw [canLay_ints ns]
    rfl
theorem depth_ints : ∀ ns : List Int, PyData.depthAll (ns.map PyData.int) = 0
  | [] => rfl
  | n :: ns => by
    rw [List.map_cons]
    unfold PyData.depthAll
    rw [depth_ints ns]
    rfl
theorem shaped_ints (ns : List Int) : SeqAt.shaped (.list (ns.map PyData.int)) = true := by
  unfold SeqAt.shaped
  rw [Bool.and_eq_true]
  refine ⟨canLay_ints ns, decide_eq_true ?_⟩
  show PyData.depthAll (ns.map PyData.int) + 1 ≤ 64
  rw [depth_ints]
  decide
theorem dpAll_ints {K : Fr} {H : Hp} : ∀ ns : List Int, DpAll K H (ns.map V.int) (ns.map PyData.int)
  | [] => .nil
  | n :: ns => .cons (.int n) (dpAll_ints ns)
theorem atI_map {α β : Type} (f : α → β) (xs : List α) (i : Int) : atI (xs.map f) i = (atI xs i).map f := by
  unfold atI
  rw [List.length_map]
  cases ixN xs.length i with
  | none => rfl
  | some j => simp
theorem eqv_nil (ds : List D) : PyData.eqv (.list ds) (.list []) = ds.isEmpty := by
  show PyData.eqvAll ds [] = _
  cases ds <;> rfl
section
variable {X : Cx} {a e : Expr} {es : List Expr} {pos p p2 : Pos} {x : Str} {k : Nat}
theorem qe_lenS (i : Nat) (hm : X.mg "len" = none) (hN : X.N[i]? = some x := by rfl) (hv : Vis X.env.scope x := by first | exact Or.inl rfl | exact Or.inr (Or.inl rfl) | exact Or.inr (Or.inr rfl)) (hd : (x == ("__debug__" : Str)) = false := by decide) (hcd : (x == ("__classdict__" : Str)) = false := by decide) (hg : Gl X "len" := by rfl)
    (hs : starEach [.Name x p] X.env = (false, eval (.Name x p) X.env) :: starEach [] X.env := by rfl) (hpl : (backTo pos (starEach [] X.env)).any (·.1) = false := by rfl) : QE X (.Call (.Name "len" p2) [.Name x p] [] pos) (eLenS i) := by
  refine PE.imp (pe_callB call_len_seq hg hm PySem.boot_len (pa_cons (pe_var hN hv hd hcd) pa_nil hs) (by decide) (by decide) hs hpl) fun σ H Q h => ?_
  obtain ⟨R, G, ρ, d, ρ', rp, e, k⟩ := h
  unfold eLenS at e
  rw [Option.map_eq_some_iff] at e
  obtain ⟨ns, h0, e⟩ := e
  cases e
  obtain ⟨q, eq, hq⟩ := rp.slot i _ (scrAt_some h0)
  refine ⟨.ref q, eq, q, _, rfl, .inl (rp.subG.seq hq), ?_⟩
  rw [List.length_map]
  exact k G H _ (.refl _) rp (.int _)
theorem qe_ixS (i : Nat) {m : M D} (ha : QE X a m) (hN : X.N[i]? = some x := by rfl) (hv : Vis X.env.scope x := by first | exact Or.inl rfl | exact Or.inr (Or.inl rfl) | exact Or.inr (Or.inr rfl)) (hd : (x == ("__debug__" : Str)) = false := by decide) (hcd : (x == ("__classdict__" : Str)) = false := by decide) (hs : PlainIx a := by exact fun _ _ => rfl) :
    QE X (.Subscript (.Name x p) a pos) (eIxS i m) := by
  refine PE.imp (pe_ix ix_list (pe_var hN hv hd hcd) ha hs) fun σ H Q h => ?_
  obtain ⟨R, G, ρ, d, ρ', rp, e, k⟩ := h
  unfold eIxS at e
  rw [Option.bind_eq_some_iff] at e
  obtain ⟨ns, h0, e⟩ := e
  rw [Option.bind_eq_some_iff] at e
  obtain ⟨⟨y, ρ1⟩, h1, e⟩ := e
  cases y <;> try (cases e; done)
  rename_i j
  simp only at e
  rw [Option.map_eq_some_iff] at e
  obtain ⟨z, hz, e⟩ := e
  cases e
  obtain ⟨q, eq, hq⟩ := rp.slot i _ (scrAt_some h0)
  refine ⟨.ref q, eq, R, G, ρ, .int j, _, rp, h1, fun G1 H1 v1 s1 r1 d1 => ?_⟩
  cases d1
  exact ⟨q, _, j, .int z, rfl, rfl, r1.subG.seq (s1.seq hq), by rw [atI_map, hz]; rfl, k G1 H1 _ s1 r1 (.int _)⟩
theorem eqNilS_read {i : Nat} {σ : St} {H : Hp} {Q : VK} {K : Fr} (h : tM K (eEqNilS i) σ H Q) : tOp (rEqD K) (tVar i) (tLst tNil) σ H Q := by
  obtain ⟨R, G, ρ, d, ρ', rp, e, k⟩ := h
  unfold eEqNilS at e
  rw [Option.map_eq_some_iff] at e
  obtain ⟨ns, h0, e⟩ := e
  cases e
  obtain ⟨q, eq, hq⟩ := rp.slot i _ (scrAt_some h0)
  refine ⟨.ref q, eq, by decide, fun l hl => ?_⟩
  have g : Gr G H G (upd H l (.lst [])) := Gr.junk rp.subG hl
  refine ⟨.list (ns.map PyData.int), .list [], .lst (g.hh.seq (rp.subG.seq hq)) (dpAll_ints ns), .lst (SqL.of upd_same) .nil, shaped_ints ns, by decide, ?_⟩
  have e1 : PyData.eqv (.list (ns.map PyData.int)) (.list []) = ns.isEmpty := by
    rw [eqv_nil]
    cases ns <;> rfl
  rw [e1]
  exact k G _ _ (.refl _) (rp.grow g) (.bl _)
theorem qe_eqNilS (i : Nat) (hr : Room k X.A) (hN : X.N[i]? = some x := by rfl) (hv : Vis X.env.scope x := by first | exact Or.inl rfl | exact Or.inr (Or.inl rfl) | exact Or.inr (Or.inr rfl)) (hd : (x == ("__debug__" : Str)) = false := by decide) (hcd : (x == ("__classdict__" : Str)) = false := by decide) :
    QE X (.Compare (.Name x p) [.Eq] [.List [] p2] pos) (eEqNilS i) := PE.imp (pe_cmpR (op_eqD hr.units) (pe_var hN hv hd hcd) (pe_lst pa_nil) (nomark _)) fun σ H Q h => eqNilS_read h
theorem qt_eqNilS (i : Nat) (hr : Room k X.A) (hN : X.N[i]? = some x := by rfl) (hv : Vis X.env.scope x := by first | exact Or.inl rfl | exact Or.inr (Or.inl rfl) | exact Or.inr (Or.inr rfl)) (hd : (x == ("__debug__" : Str)) = false := by decide) (hcd : (x == ("__classdict__" : Str)) = false := by decide) :
    QT X (.Compare (.Name x p) [.Eq] [.List [] p2] pos) (cV (eEqNilS i)) := PT.imp (pt_cmpR (op_eqD hr.units) (pe_var hN hv hd hcd) (pe_lst pa_nil) (nomark _)) fun σ H Q h => eqNilS_read (tM_cV h)
theorem neNilO_read {i : Nat} {σ : St} {H : Hp} {Q : VK} {K : Fr} (h : tM K (eNeNilO i) σ H Q) : tOp (rNeD K) (tVar i) (tLst tNil) σ H Q := by
  obtain ⟨R, G, ρ, d, ρ', rp, e, k⟩ := h
  unfold eNeNilO at e
  rw [Option.bind_eq_some_iff] at e
  obtain ⟨ds, h0, e⟩ := e
  split at e
  · rename_i hsh
    cases e
    obtain ⟨q, vs, eq, hq, dv⟩ := rp.ownAt (ownL_some h0)
    refine ⟨.ref q, eq, by decide, fun l hl => ?_⟩
    have g : Gr G H G (upd H l (.lst [])) := Gr.junk rp.subG hl
    refine ⟨.list ds, .list [], .lst (SqL.of (g.hh _ _ hq)) (DqAll.dp (rp.subG.trans g.hh) dv (shaped_layAll hsh)), .lst (SqL.of upd_same) .nil, hsh, by decide, ?_⟩
    rw [eqv_nil]
    exact k G _ _ (.refl _) (rp.grow g) (.bl _)
  · cases e
theorem eqNilO_read {i : Nat} {σ : St} {H : Hp} {Q : VK} {K : Fr} (h : tM K (eEqNilO i) σ H Q) : tOp (rEqD K) (tVar i) (tLst tNil) σ H Q := by
  obtain ⟨R, G, ρ, d, ρ', rp, e, k⟩ := h
  unfold eEqNilO at e
  rw [Option.bind_eq_some_iff] at e
  obtain ⟨ds, h0, e⟩ := e
  split at e
  · rename_i hsh
    cases e
    obtain ⟨q, vs, eq, hq, dv⟩ := rp.ownAt (ownL_some h0)
    refine ⟨.ref q, eq, by decide, fun l hl => ?_⟩
    have g : Gr G H G (upd H l (.lst [])) := Gr.junk rp.subG hl
    refine ⟨.list ds, .list [], .lst (SqL.of (g.hh _ _ hq)) (DqAll.dp (rp.subG.trans g.hh) dv (shaped_layAll hsh)), .lst (SqL.of upd_same) .nil, hsh, by decide, ?_⟩
    rw [eqv_nil]
    exact k G _ _ (.refl _) (rp.grow g) (.bl _)
  · cases e
theorem qe_neNilO (i : Nat) (hr : Room k X.A) (hN : X.N[i]? = some x := by rfl) (hv : Vis X.env.scope x := by first | exact Or.inl rfl | exact Or.inr (Or.inl rfl) | exact Or.inr (Or.inr rfl)) (hd : (x == ("__debug__" : Str)) = false := by decide) (hcd : (x == ("__classdict__" : Str)) = false := by decide) :
    QE X (.Compare (.Name x p) [.NotEq] [.List [] p2] pos) (eNeNilO i) := PE.imp (pe_cmpR (op_neD hr.units) (pe_var hN hv hd hcd) (pe_lst pa_nil) (nomark _)) fun σ H Q h => neNilO_read h
theorem qt_neNilO (i : Nat) (hr : Room k X.A) (hN : X.N[i]? = some x := by rfl) (hv : Vis X.env.scope x := by first | exact Or.inl rfl | exact Or.inr (Or.inl rfl) | exact Or.inr (Or.inr rfl)) (hd : (x == ("__debug__" : Str)) = false := by decide) (hcd : (x == ("__classdict__" : Str)) = false := by decide) :
    QT X (.Compare (.Name x p) [.NotEq] [.List [] p2] pos) (cV (eNeNilO i)) := PT.imp (pt_cmpR (op_neD hr.units) (pe_var hN hv hd hcd) (pe_lst pa_nil) (nomark _)) fun σ H Q h => neNilO_read (tM_cV h)
theorem qe_eqNilO (i : Nat) (hr : Room k X.A) (hN : X.N[i]? = some x := by rfl) (hv : Vis X.env.scope x := by first | exact Or.inl rfl | exact Or.inr (Or.inl rfl) | exact Or.inr (Or.inr rfl)) (hd : (x == ("__debug__" : Str)) = false := by decide) (hcd : (x == ("__classdict__" : Str)) = false := by decide) :
    QE X (.Compare (.Name x p) [.Eq] [.List [] p2] pos) (eEqNilO i) := PE.imp (pe_cmpR (op_eqD hr.units) (pe_var hN hv hd hcd) (pe_lst pa_nil) (nomark _)) fun σ H Q h => eqNilO_read h
theorem qt_eqNilO (i : Nat) (hr : Room k X.A) (hN : X.N[i]? = some x := by rfl) (hv : Vis X.env.scope x := by first | exact Or.inl rfl | exact Or.inr (Or.inl rfl) | exact Or.inr (Or.inr rfl)) (hd : (x == ("__debug__" : Str)) = false := by decide) (hcd : (x == ("__classdict__" : Str)) = false := by decide) :
    QT X (.Compare (.Name x p) [.Eq] [.List [] p2] pos) (cV (eEqNilO i)) := PT.imp (pt_cmpR (op_eqD hr.units) (pe_var hN hv hd hcd) (pe_lst pa_nil) (nomark _)) fun σ H Q h => eqNilO_read (tM_cV h)

/-! ### name += e (ints) -/
def sAug (i : Nat) (a : M D) : MS := fun ρ => match ρ[i]? with
  | some (.dat (.int n)) => (a ρ).bind fun p => match p.1 with
    | .int j => some (.nx, p.2.set i (.dat (.int (n + j))))
    | _ => none
  | _ => none
theorem qs_aug (i : Nat) {m : M D} {pos' : Pos} (hN : X.N.Nodup) (he : QE X e m) (hi : X.N[i]? = some x := by rfl) (hx : Loc X.env.scope x := by first | exact Or.inl rfl | exact Or.inr rfl) (hf : X.fn x = true ∨ X.env.scope.names.lookup x = some .local := by first | exact .inl rfl | exact .inr rfl | assumption) :
    QS X [i] (.AugAssign (.Name x pos') .Add e pos) (sAug i m) := by
  refine PS.imp (ps_aug hN hi hx he ip_add hf) fun E σ H h => ?_
  obtain ⟨R, G, ρ, f, ρ', rp, e, k⟩ := h
  unfold sAug at e
  split at e
  · rename_i n hs
    rw [Option.bind_eq_some_iff] at e
    obtain ⟨⟨y, ρ1⟩, h1, e⟩ := e
    cases y <;> try (cases e; done)
    rename_i j
    cases e
    obtain ⟨v, ev, dv⟩ := rp.slot i _ hs
    cases dv
    refine ⟨.int n, ev, R, G, ρ, .int j, ρ1, rp, h1, fun G1 H1 v1 s1 r1 d1 => ?_⟩
    cases d1
    exact ⟨n, j, rfl, rfl, k G1 H1 _ s1 (r1.setD (.int _)) (fun l hl => List.getElem?_set_ne fun z => hl (by simp [z]))⟩
  · cases e
/-! ### an own list from an expression that makes a new one -/
/-- [x] * n, to be owned -/
def oRep (a b : M D) : M Ow := fun ρ => (a ρ).bind fun p => (b p.2).bind fun q => match p.1, q.1 with
  | .list xs, .int k => if 0 ≤ k ∧ k ≤ 1000 ∧ xs.length ≤ 1000 then some (.lst (List.replicate k.toNat xs).flatten, q.2) else none
  | _, _ => none
theorem qo_rep {b : Expr} {m n : M D} (ha : QE X a m) (hb : QE X b n) : QO X (.BinOp a .Mult b pos) (oRep m n) := by
  refine PE.imp (pe_op op_rep ha hb) fun σ H Q h => ?_
  obtain ⟨R, G, ρ, c, ρ', rp, e, k⟩ := h
  unfold oRep at e
  rw [Option.bind_eq_some_iff] at e
  obtain ⟨⟨x, ρ1⟩, h1, e⟩ := e
  rw [Option.bind_eq_some_iff] at e
  obtain ⟨⟨y, ρ2⟩, h2, e⟩ := e
  refine ⟨R, G, ρ, x, ρ1, rp, h1, fun G1 H1 v1 s1 r1 d1 => ?_⟩
  refine ⟨R, G1, ρ1, y, ρ2, r1, h2, fun G2 H2 v2 s2 r2 d2 => ?_⟩
  cases x <;> try (cases e; done)
  cases y <;> try (cases e; done)
  simp only at e
  split at e
  · rename_i hl
    cases e
    have d1' := Dq_mono s2 d1
    cases d1' with
    | lst h1 a1 =>
      cases d2
      refine ⟨_, _, _, rfl, rfl, r2.subG _ _ h1, by omega, by omega, ?_, fun p hp => k G2 _ p (s1.trans s2) (r2.pushNew hp (ho := .lst _) (a1.rep _))⟩
      rw [a1.length]
      exact size_of (Nat.le_trans (Nat.mul_le_mul hl.2.2 (show Int.toNat _ ≤ 1000 by omega)) (by decide))
  · cases e
/-- list(x), to be owned -/
def oList (as : M (List D)) : M Ow := fun ρ => (as ρ).bind fun p => match p.1 with
  | [.list xs] => some (.lst xs, p.2)
  | [.tuple xs] => some (.lst xs, p.2)
  | _ => none
theorem qo_list {m : M (List D)} (hm : X.mg "list" = none) (ha : QA X [e] m) (hg : Gl X "list" := by rfl) (hv : bootBuiltins "list" = some (.type "list") := by decide +kernel)
    (he : starEach [e] X.env = (false, eval e X.env) :: starEach [] X.env := by rfl) (hpl : (backTo pos (starEach [] X.env)).any (·.1) = false := by rfl) : QO X (.Call (.Name "list" p) [e] [] pos) (oList m) := by
  refine PE.imp (pe_callTy call_list_of hg hm hv ha (by decide) (by decide) he hpl) fun σ H Q h => ?_
  obtain ⟨R, G, ρ, c, ρ', rp, e, k⟩ := h
  unfold oList at e
  rw [Option.bind_eq_some_iff] at e
  obtain ⟨⟨xs, ρ1⟩, h1, e⟩ := e
  refine ⟨R, G, ρ, xs, ρ1, rp, h1, fun G1 H1 v1 s1 r1 d1 => ?_⟩
  simp only at e
  split at e
  · cases e
    obtain ⟨v, rfl, hd⟩ := one_of d1
    cases hd with
    | lst h1 a1 => exact ⟨_, _, rfl, .inl (SqL.of (r1.subG _ _ h1)), fun l hl => k G1 _ l s1 (r1.pushNew hl (ho := .lst _) a1)⟩
  · cases e
    obtain ⟨v, rfl, hd⟩ := one_of d1
    cases hd with
    | tup h1 a1 => exact ⟨_, _, rfl, .inr (SqT_mono r1.subG h1), fun l hl => k G1 _ l s1 (r1.pushNew hl (ho := .lst _) a1)⟩
  · cases e
end

/-! ### zip of two lists, of two tuples; enumerate of a list -/
def zipL (xs ys : List D) : List D := (xs.zip ys).map fun p => .tuple [p.1, p.2]
def zipD : List D → Option (List D)
  | [.list xs, .list ys] => some (zipL xs ys)
  | [.tuple xs, .tuple ys] => some (zipL xs ys)
  | _ => none
theorem zipL_length (xs ys : List D) : (zipL xs ys).length = min xs.length ys.length := by simp [zipL]
theorem zipL_get {xs ys : List D} {i : Nat} {d : D} (h : (zipL xs ys)[i]? = some d) : ∃ x y, xs[i]? = some x ∧ ys[i]? = some y ∧ d = .tuple [x, y] := by
  unfold zipL at h
  rw [List.getElem?_map] at h
  cases q : (xs.zip ys)[i]? with
  | none => rw [q] at h; cases h
  | some p =>
    rw [q] at h
    cases h
    rw [List.getElem?_zip_eq_some] at q
    exact ⟨p.1, p.2, q.1, q.2, rfl⟩
theorem walk_zipL {K : Fr} {G : Hp} {a b : Addr} {xs ys : List D} (ha : Dq K G (.ref a) (.list xs)) (hb : Dq K G (.ref b) (.list ys)) : WalkD K (Itz K a b) G (zipL xs ys) := by
  cases ha with
  | lst h1 a1 =>
    rename_i us
    cases hb with
    | lst h2 a2 =>
      rename_i ws
      have sq1 : ∀ G' H, Same G G' → Same G' H → SqL K H a us := fun G' H s1 s2 => SqL.of (s2 _ _ (s1 _ _ h1))
      have sq2 : ∀ G' H, Same G G' → Same G' H → SqL K H b ws := fun G' H s1 s2 => SqL.of (s2 _ _ (s1 _ _ h2))
      have l1 := a1.length
      have l2 := a2.length
      refine ⟨fun i G' H s1 s2 hi => ?_, fun i G' H s1 s2 hi => ?_, fun i G' H v H' d s1 s2 hd hy => ?_⟩
      · rw [zipL_length] at hi
        exact ⟨us, ws, us[i]'(by omega), ws[i]'(by omega), sq1 G' H s1 s2, sq2 G' H s1 s2, by simp, by simp⟩
      · rw [zipL_length] at hi
        exact ⟨us, ws, sq1 G' H s1 s2, sq2 G' H s1 s2, by omega⟩
      · obtain ⟨T, x, y, rfl, hT, rfl, f1, f2⟩ := hy
        obtain ⟨dx, dy, e1, e2, rfl⟩ := zipL_get hd
        refine ⟨_, Gr.new s2 hT, .tup (SqT.of upd_same) ?_⟩
        have gg := (Gr.new (o := .tup [x, y]) s2 hT).gg
        exact .cons (Dq_mono (s1.trans gg) (a1.idx e1 (f1 us (sq1 G' H s1 s2)))) (.cons (Dq_mono (s1.trans gg) (a2.idx e2 (f2 ws (sq2 G' H s1 s2)))) .nil)
theorem walk_zipT {K : Fr} {G : Hp} {a b : Addr} {xs ys : List D} (ha : Dq K G (.ref a) (.tuple xs)) (hb : Dq K G (.ref b) (.tuple ys)) : WalkD K (RZ.ItzT K a b) G (zipL xs ys) := by
  cases ha with
  | tup h1 a1 =>
    rename_i us
    cases hb with
    | tup h2 a2 =>
      rename_i ws
      have sq1 : ∀ G' H, Same G G' → Same G' H → SqT K H a us := fun G' H s1 s2 => SqT_mono s2 (SqT_mono s1 h1)
      have sq2 : ∀ G' H, Same G G' → Same G' H → SqT K H b ws := fun G' H s1 s2 => SqT_mono s2 (SqT_mono s1 h2)
      have l1 := a1.length
      have l2 := a2.length
      refine ⟨fun i G' H s1 s2 hi => ?_, fun i G' H s1 s2 hi => ?_, fun i G' H v H' d s1 s2 hd hy => ?_⟩
      · rw [zipL_length] at hi
        exact ⟨us, ws, us[i]'(by omega), ws[i]'(by omega), sq1 G' H s1 s2, sq2 G' H s1 s2, by simp, by simp⟩
      · rw [zipL_length] at hi
        exact ⟨us, ws, sq1 G' H s1 s2, sq2 G' H s1 s2, by omega⟩
      · obtain ⟨T, x, y, rfl, hT, rfl, f1, f2⟩ := hy
        obtain ⟨dx, dy, e1, e2, rfl⟩ := zipL_get hd
        refine ⟨_, Gr.new s2 hT, .tup (SqT.of upd_same) ?_⟩
        have gg := (Gr.new (o := .tup [x, y]) s2 hT).gg
        exact .cons (Dq_mono (s1.trans gg) (a1.idx e1 (f1 us (sq1 G' H s1 s2)))) (.cons (Dq_mono (s1.trans gg) (a2.idx e2 (f2 ws (sq2 G' H s1 s2)))) .nil)
section
variable {X : Cx} {e e2 : Expr} {p pos tpos : Pos} {elts : List Expr} {kk : Nat}
theorem qi_zip {m : M (List D)} (hm : X.mg "zip" = none) (ha : QA X [e, e2] m) (hg : Gl X "zip" := by rfl) (hs : starEach [e, e2] X.env = (false, eval e X.env) :: starEach [e2] X.env := by rfl) (hpl : (backTo pos (starEach [e2] X.env)).any (·.1) = false := by rfl) :
    QI X (.Tuple elts kk tpos) (.Call (.Name "zip" p) [e, e2] [] pos) (iApp zipD m) := by
  refine PI.imp (RZ.pi_zipA hg hm ha hs hpl) fun σ H Q h => ?_
  obtain ⟨R, G, ρ, ds, ρ', rp, e, k⟩ := h
  obtain ⟨xs, h1, h2⟩ := iApp_some e
  refine ⟨R, G, ρ, _, _, rp, h1, fun G1 H1 v1 s1 r1 d1 => ?_⟩
  unfold zipD at h2
  split at h2
  · cases h2
    obtain ⟨v, w, rfl, da, db⟩ := two_of d1
    cases id da with
    | lst ha1 _ =>
      cases id db with
      | lst hb1 _ => exact ⟨_, _, _, _, rfl, .inl ⟨SqL.of (r1.subG _ _ ha1), SqL.of (r1.subG _ _ hb1), k G1 H1 _ s1 r1 (walk_zipL da db)⟩⟩
  · cases h2
    obtain ⟨v, w, rfl, da, db⟩ := two_of d1
    cases id da with
    | tup ha1 _ =>
      cases id db with
      | tup hb1 _ => exact ⟨_, _, _, _, rfl, .inr ⟨SqT_mono r1.subG ha1, SqT_mono r1.subG hb1, k G1 H1 _ s1 r1 (walk_zipT da db)⟩⟩
  · cases h2
end
/-! ### a def that is not called (the depth is used up) -/
theorem fnP0 {P : Program} {w : World} {K : Fr} {mg : Str → Option Value} {base : Heap} {CX : CXT} {k : Nat} {f : Addr} {fd : FuncData} {ps : List Str} {n : Nat} {F : List D → Option D} (hF : ∀ ds, F ds = none) (hn : n = ps.length) : FnOk P w K mg base CX k f fd ps (spP K F n) :=
  ⟨fun vs H Q E h => h.1.trans hn, fun A outer s H args us vs Q E _ _ _ _ h => by obtain ⟨_, _, _, _, _, _, e, _⟩ := h; rw [hF] at e; cases e⟩
theorem fnO0 {P : Program} {w : World} {K : Fr} {mg : Str → Option Value} {base : Heap} {CX : CXT} {k : Nat} {f : Addr} {fd : FuncData} {ps : List Str} {n : Nat} {F : List Sl → Option (D × List Sl)} (hF : ∀ ds, F ds = none) (hn : n = ps.length) : FnOk P w K mg base CX k f fd ps (spO K F n) :=
  ⟨fun vs H Q E h => h.1.trans hn, fun A outer s H args us vs Q E _ _ _ _ h => by obtain ⟨_, _, _, _, _, _, _, e, _⟩ := h; rw [hF] at e; cases e⟩
/-- the law: True of every script -/
def spLaw (K : Fr) : Sp := fun vs H Q _ => ∃ (a : Addr) (ns : List Int), vs = [.ref a] ∧ SqL K H a (ns.map V.int) ∧ ns.length ≤ 63 ∧ ∀ H', Q (.bl true) H'
theorem law_of {P : Program} {w : World} {K : Fr} {mg : Str → Option Value} {base : Heap} {CX : CXT} {k : Nat} {f : Addr} {fd : FuncData} {ps : List Str} {F : List Sl → Option (D × List Sl)} (h : FnOk P w K mg base CX k f fd ps (spO K F 1)) (hF : ∀ ns : List Int, ns.length ≤ 63 → ∃ ss, F [.scr ns] = some (.bool true, ss)) : FnOk P w K mg base CX k f fd ps (spLaw K) := by
  refine h.imp fun vs H Q E hs => ?_
  obtain ⟨a, ns, rfl, hl, h63, q⟩ := hs
  obtain ⟨ss, e⟩ := hF ns h63
  refine ⟨rfl, fun _ => none, H, [.scr ns], .bool true, ss, ⟨rfl, fun _ _ z => (by cases z), .refl _, fun _ _ z => (by cases z), fun i s hi => ?_, fun i j c c' p h1 _ _ _ => ?_⟩, e, fun G' H' v _ _ dv => ?_⟩
  · cases i with
    | zero => cases hi; exact ⟨a, rfl, hl⟩
    | succ i => simp at hi
  · cases i with
    | zero => cases h1
    | succ i => simp at h1
  · cases dv; exact q H'
end QL
set_option Elab.async false
set_option linter.all false
set_option maxRecDepth 100000
set_option maxHeartbeats 1000000
namespace QL
open PySem PySem.Spec PyProof.Rows L2

/-! ### dicts with whole numbers as keys -/
def getD : List (D × D) → Int → Option D
  | [], _ => none
  | (.int i, d) :: r, k => if i = k then some d else getD r k
  | _ :: r, k => getD r k
theorem DqKv.val {K : Fr} {G : Hp} {k : Int} : ∀ {us : List (Key × V)} {ds : List (D × D)}, DqKv K G us ds → (getD ds k = none ∧ valV us (Sum.inl k) = none) ∨ ∃ d v, getD ds k = some d ∧ valV us (Sum.inl k) = some v ∧ Dq K G v d
  | _, _, .nil => .inl ⟨rfl, rfl⟩
  | _, _, .cons (i := i) (v := v) (d := d) (vs := us) h t => by
    by_cases q : i = k
    · subst q
      exact .inr ⟨d, v, by unfold getD; rw [if_pos rfl], by unfold valV; rw [List.find?_cons_of_pos (by simp)]; rfl, h⟩
    · have e1 : valV ((Sum.inl i, v) :: us) (Sum.inl k) = valV us (Sum.inl k) := by
        unfold valV
        rw [List.find?_cons_of_neg (by simp [q])]
      rcases DqKv.val (k := k) t with ⟨a, b⟩ | ⟨d', v', a, b, c⟩
      · exact .inl ⟨by unfold getD; rw [if_neg q]; exact a, by rw [e1]; exact b⟩
      · exact .inr ⟨d', v', by unfold getD; rw [if_neg q]; exact a, by rw [e1]; exact b, c⟩
def keysOf (ds : List (D × D)) : List D := ds.map Prod.fst
theorem DqKv.length {K : Fr} {G : Hp} : ∀ {us : List (Key × V)} {ds : List (D × D)}, DqKv K G us ds → us.length = ds.length
  | _, _, .nil => rfl
  | _, _, .cons _ t => by rw [List.length_cons, List.length_cons, DqKv.length t]
theorem DqKv.key {K : Fr} {G : Hp} : ∀ {us : List (Key × V)} {ds : List (D × D)} {i : Nat} {k : Key} {v : V} {d : D}, DqKv K G us ds → us[i]? = some (k, v) → (keysOf ds)[i]? = some d → Dq K G (kV k) d
  | _, _, 0, _, _, _, .cons (i := i) h t, e, e2 => by
    cases e
    cases e2
    exact .int i
  | _, _, n + 1, _, _, _, .cons h t, e, e2 => DqKv.key (i := n) t e e2
theorem DqKv.keys {K : Fr} {G : Hp} : ∀ {us : List (Key × V)} {ds : List (D × D)}, DqKv K G us ds → DqAll K G (us.map fun kv => kV kv.1) (keysOf ds)
  | _, _, .nil => .nil
  | _, _, .cons (i := i) h t => .cons (.int i) (DqKv.keys t)
def dIxD : D → D → Option D
  | .dict ds, .int k => getD ds k
  | _, _ => none
def dInK : D → D → Option D
  | .int k, .dict ds => some (.bool (getD ds k).isSome)
  | _, _ => none
def dNotInK : D → D → Option D
  | .int k, .dict ds => some (.bool (!(getD ds k).isSome))
  | _, _ => none
def iKeysD (a : M D) : M (List D) := fun ρ => (a ρ).bind fun p => match p.1 with
  | .dict ds => some (keysOf ds, p.2)
  | _ => none
theorem bind2' {f : D → D → Option D} {m n : M D} {ρ : Ro} {z : D} {ρ2 : Ro} (h : eOp2 f m n ρ = some (z, ρ2)) : ∃ x ρ1 y, m ρ = some (x, ρ1) ∧ n ρ1 = some (y, ρ2) ∧ f x y = some z := by
  unfold eOp2 at h
  rw [Option.bind_eq_some_iff] at h
  obtain ⟨⟨x, ρ1⟩, h1, h⟩ := h
  rw [Option.bind_eq_some_iff] at h
  obtain ⟨⟨y, ρ3⟩, h2, h⟩ := h
  rw [Option.map_eq_some_iff] at h
  obtain ⟨w, h3, h⟩ := h
  cases h
  exact ⟨x, ρ1, y, h1, h2, h3⟩
theorem units1 {k : Nat} {A : Around} (hr : Room k A) : A.units + 1 < cLine := by
  have := hr.units
  omega
section
variable {X : Cx} {a e o i : Expr} {es : List Expr} {pos p p2 : Pos} {k : Nat}
theorem qe_ixD {m n : M D} (hr : Room k X.A) (ho : QE X o m) (hi : QE X i n) (hs : NoSl i := by exact fun _ _ => rfl) : QE X (.Subscript o i pos) (eOp2 dIxD m n) := by
  refine PE.imp (pe_dget (units1 hr) ho hi hs) fun σ H Q h => ?_
  obtain ⟨R, G, ρ, d, ρ', rp, e, k⟩ := h
  obtain ⟨x, ρ1, y, h1, h2, h3⟩ := bind2' e
  refine ⟨R, G, ρ, x, ρ1, rp, h1, fun G1 H1 v1 s1 r1 d1 => ⟨R, G1, ρ1, y, _, r1, h2, fun G2 H2 v2 s2 r2 d2 => ?_⟩⟩
  unfold dIxD at h3
  split at h3
  · cases d1 with
    | dic ha hv =>
      cases d2
      rename_i us o1 o2
      rcases DqKv.val (DqKv_mono s2 hv) with ⟨q, _⟩ | ⟨d', v', q1, q2, q3⟩
      · rw [q] at h3; cases h3
      · rw [q1] at h3
        cases h3
        exact ⟨_, v', rfl, .inl ⟨_, Sum.inl _, .inr ⟨_, r2.subG _ _ (s2 _ _ ha)⟩, rfl, q2.symm⟩, k G2 H2 _ (s1.trans s2) r2 q3⟩
  · cases h3
theorem tDIn_of {K : Fr} {m n : M D} {σ : St} {H : Hp} {Q : VK} (h : tM K (eOp2 dInK m n) σ H Q) : tDIn (tM K m) (tM K n) σ H Q := by
  obtain ⟨R, G, ρ, d, ρ', rp, e, k⟩ := h
  obtain ⟨x, ρ1, y, h1, h2, h3⟩ := bind2' e
  refine ⟨R, G, ρ, x, ρ1, rp, h1, fun G1 H1 v1 s1 r1 d1 => ⟨R, G1, ρ1, y, _, r1, h2, fun G2 H2 v2 s2 r2 d2 => ?_⟩⟩
  unfold dInK at h3
  split at h3
  · cases d2 with
    | dic ha hv =>
      cases d1
      cases h3
      rcases DqKv.val hv with ⟨q, q2⟩ | ⟨d', v', q1, q2, q3⟩
      · refine ⟨_, none, rfl, .inl ⟨_, Sum.inl _, .inr ⟨_, r2.subG _ _ ha⟩, rfl, q2.symm⟩, ?_⟩
        have := k G2 H2 (.bl false) (s1.trans s2) r2 (by rw [q]; exact .bl _)
        exact this
      · refine ⟨_, some v', rfl, .inl ⟨_, Sum.inl _, .inr ⟨_, r2.subG _ _ ha⟩, rfl, q2.symm⟩, ?_⟩
        exact k G2 H2 (.bl true) (s1.trans s2) r2 (by rw [q1]; exact .bl _)
  · cases h3
theorem tDNotIn_of {K : Fr} {m n : M D} {σ : St} {H : Hp} {Q : VK} (h : tM K (eOp2 dNotInK m n) σ H Q) : tDNotIn (tM K m) (tM K n) σ H Q := by
  obtain ⟨R, G, ρ, d, ρ', rp, e, k⟩ := h
  obtain ⟨x, ρ1, y, h1, h2, h3⟩ := bind2' e
  refine ⟨R, G, ρ, x, ρ1, rp, h1, fun G1 H1 v1 s1 r1 d1 => ⟨R, G1, ρ1, y, _, r1, h2, fun G2 H2 v2 s2 r2 d2 => ?_⟩⟩
  unfold dNotInK at h3
  split at h3
  · cases d2 with
    | dic ha hv =>
      cases d1
      cases h3
      rcases DqKv.val hv with ⟨q, q2⟩ | ⟨d', v', q1, q2, q3⟩
      · refine ⟨_, none, rfl, .inl ⟨_, Sum.inl _, .inr ⟨_, r2.subG _ _ ha⟩, rfl, q2.symm⟩, ?_⟩
        have := k G2 H2 (.bl true) (s1.trans s2) r2 (by rw [q]; exact .bl _)
        exact this
      · refine ⟨_, some v', rfl, .inl ⟨_, Sum.inl _, .inr ⟨_, r2.subG _ _ ha⟩, rfl, q2.symm⟩, ?_⟩
        exact k G2 H2 (.bl false) (s1.trans s2) r2 (by rw [q1]; exact .bl _)
  · cases h3
theorem qe_inK {m n : M D} (hr : Room k X.A) (hi : QE X i m) (ho : QE X o n) (hm : behindInMarks .In o = false := by first | exact nomark _ | rfl | (with_unfolding_all rfl)) : QE X (.Compare i [.In] [o] pos) (eOp2 dInK m n) :=
  PE.imp (pe_cmp (pc_din (units1 hr) hi ho) hm) fun _ _ _ h => tDIn_of h
theorem qe_notInK {m n : M D} (hr : Room k X.A) (hi : QE X i m) (ho : QE X o n) (hm : behindInMarks .NotIn o = false := by first | exact nomark _ | rfl | (with_unfolding_all rfl)) : QE X (.Compare i [.NotIn] [o] pos) (eOp2 dNotInK m n) :=
  PE.imp (pe_cmp (pc_dnotin (units1 hr) hi ho) hm) fun _ _ _ h => tDNotIn_of h
theorem qt_inK {m n : M D} (hr : Room k X.A) (hi : QE X i m) (ho : QE X o n) (hm : behindInMarks .In o = false := by first | exact nomark _ | rfl | (with_unfolding_all rfl)) : QT X (.Compare i [.In] [o] pos) (cV (eOp2 dInK m n)) :=
  PT.imp (pt_cmp (pc_din (units1 hr) hi ho) hm) fun _ _ _ h => tDIn_of (tM_cV h)
theorem qt_notInK {m n : M D} (hr : Room k X.A) (hi : QE X i m) (ho : QE X o n) (hm : behindInMarks .NotIn o = false := by first | exact nomark _ | rfl | (with_unfolding_all rfl)) : QT X (.Compare i [.NotIn] [o] pos) (cV (eOp2 dNotInK m n)) :=
  PT.imp (pt_cmp (pc_dnotin (units1 hr) hi ho) hm) fun _ _ _ h => tDNotIn_of (tM_cV h)
theorem walk_dict {K : Fr} {G : Hp} {a : Addr} {o : Obj} {us : List (Key × V)} {ds : List (D × D)} (ha : G a = some (.frz o (.dK us))) (hv : DqKv K G us ds) : WalkD K (Itk a o us) G (keysOf ds) := by
  have hl : us.length = (keysOf ds).length := by rw [hv.length]; unfold keysOf; rw [List.length_map]
  refine ⟨fun i G' H s1 s2 hi => ⟨s2 _ _ (s1 _ _ ha), by omega⟩, fun i G' H s1 s2 hi => ⟨s2 _ _ (s1 _ _ ha), by omega⟩, fun i G' H v H' d s1 s2 hd hy => ?_⟩
  obtain ⟨rfl, k, w, e, rfl⟩ := hy
  exact ⟨G', Gr.refl s2, Dq_mono s1 (DqKv.key hv e hd)⟩
theorem qi_keysD {tg : Expr} {m : M D} (he : QE X e m) : QI X tg e (iKeysD m) := by
  refine PI.imp (pi_keys he) fun σ H Q h => ?_
  obtain ⟨R, G, ρ, ds, ρ', rp, e, k⟩ := h
  unfold iKeysD at e
  rw [Option.bind_eq_some_iff] at e
  obtain ⟨⟨x, ρ1⟩, h1, e⟩ := e
  cases x <;> try (cases e; done)
  cases e
  refine ⟨R, G, ρ, _, _, rp, h1, fun G1 H1 v1 s1 r1 d1 => ?_⟩
  cases d1 with
  | dic ha hv => exact ⟨_, _, rfl, .inl ⟨_, r1.subG _ _ ha, k G1 H1 _ s1 r1 (walk_dict ha hv)⟩⟩
end

/-! ### displays of dicts -/
def flat2 : List (V × V) → List V
  | [] => []
  | p :: r => p.1 :: p.2 :: flat2 r
/-- the pairs of a display: keys and values in a row -/
def tMP (K : Fr) (m : M (List D)) : St → Hp → (List (V × V) → Hp → Prop) → Prop := fun σ H Q => ∃ R G ρ ds ρ', Rep K R G H ρ σ ∧ m ρ = some (ds, ρ') ∧ ∀ G' H' ps, Same G G' → Rep K R G' H' ρ' σ → DqAll K G' (flat2 ps) ds → Q ps H'
def QP2 (X : Cx) (pos : Pos) (keys : List (Option Expr)) (values : List Expr) (m : M (List D)) : Prop := ∃ trs, PPs X pos keys values trs ∧ ∀ σ H Q, tMP X.K m σ H Q → tPairs trs σ H Q
theorem qp_nil {X : Cx} {pos : Pos} : QP2 X pos [] [] aNil := ⟨[], pps_nil, fun σ H Q h => by
  obtain ⟨R, G, ρ, d, ρ', rp, e, k⟩ := h
  cases e
  exact k G H [] (.refl _) rp .nil⟩
theorem qp_cons {X : Cx} {pos : Pos} {kx vx : Expr} {ks : List (Option Expr)} {vs : List Expr} {m n : M D} {r : M (List D)} (hk : QE X kx m) (hv : QE X vx n) (hr : QP2 X pos ks vs r) : QP2 X pos (some kx :: ks) (vx :: vs) (aCons m (aCons n r)) := by
  obtain ⟨trs, h1, h2⟩ := hr
  refine ⟨_, pps_cons hk hv h1, fun σ H Q h => ?_⟩
  obtain ⟨R, G, ρ, d, ρ', rp, e, k⟩ := h
  unfold aCons at e
  rw [Option.bind_eq_some_iff] at e
  obtain ⟨⟨x, ρ1⟩, e1, e⟩ := e
  rw [Option.map_eq_some_iff] at e
  obtain ⟨⟨ys, ρ2⟩, e2, e⟩ := e
  cases e
  rw [Option.bind_eq_some_iff] at e2
  obtain ⟨⟨y, ρ3⟩, e3, e2⟩ := e2
  rw [Option.map_eq_some_iff] at e2
  obtain ⟨⟨zs, ρ4⟩, e4, e2⟩ := e2
  cases e2
  refine ⟨R, G, ρ, x, ρ1, rp, e1, fun G1 H1 v1 s1 r1 d1 => ⟨R, G1, ρ1, y, ρ3, r1, e3, fun G2 H2 v2 s2 r2 d2 => ?_⟩⟩
  refine h2 σ H2 _ ⟨R, G2, ρ3, zs, _, r2, e4, fun G3 H3 ps s3 r3 d3 => ?_⟩
  exact k G3 H3 ((v1, v2) :: ps) ((s1.trans s2).trans s3) r3 (.cons (Dq_mono (s2.trans s3) d1) (.cons (Dq_mono s3 d2) d3))
/-- the pairs, their keys whole numbers, none twice -/
def pairs2 : List D → Option (List (Int × D))
  | [] => some []
  | .int k :: d :: r => (pairs2 r).bind fun t => if (t.all fun p => decide (p.1 ≠ k)) = true then some ((k, d) :: t) else none
  | _ => none
def kvD (t : List (Int × D)) : List (D × D) := t.map fun p => (.int p.1, p.2)
def kvU : List (Int × V) → List (Key × V) := fun t => t.map fun p => (Sum.inl p.1, p.2)
theorem pairs2_ok {K : Fr} {G : Hp} : ∀ (ps : List (V × V)) (ds : List D) (t : List (Int × D)), DqAll K G (flat2 ps) ds → pairs2 ds = some t → ∃ us : List (Int × V), ps = (kvU us).map (fun kv => (kV kv.1, kv.2)) ∧ us.map Prod.fst = t.map Prod.fst ∧ DqKv K G (kvU us) (kvD t) ∧ t.length = ps.length ∧ (t.map Prod.fst).Nodup
  | [], ds, t, h, e => by
    cases h
    cases e
    exact ⟨[], rfl, rfl, .nil, rfl, .nil⟩
  | (x, y) :: ps, ds, t, h, e => by
    cases h with
    | cons hx h =>
      cases h with
      | cons hy h =>
        cases hx <;> try (cases e; done)
        rename_i dy ds i
        have e' : ((pairs2 ds).bind fun t => if (t.all fun p => decide (p.1 ≠ i)) = true then some ((i, dy) :: t) else none) = some t := e
        rw [Option.bind_eq_some_iff] at e'
        obtain ⟨t1, e1, e'⟩ := e'
        split at e'
        · rename_i ha
          cases e'
          obtain ⟨us, a, b, c, d, nd⟩ := pairs2_ok ps ds t1 h e1
          refine ⟨(i, y) :: us, by rw [a]; rfl, by rw [List.map_cons, List.map_cons, b], .cons hy c, by rw [List.length_cons, List.length_cons, d], ?_⟩
          rw [List.map_cons, List.nodup_cons]
          refine ⟨fun hm => ?_, nd⟩
          rw [List.mem_map] at hm
          obtain ⟨q, hq, hq2⟩ := hm
          have := (List.all_eq_true.mp ha) q hq
          rw [decide_eq_true_eq] at this
          exact this hq2
        · cases e'
theorem mergeK_app : ∀ (more kvs : List (Key × V)), ((kvs ++ more).map Prod.fst).Nodup → mergeK kvs more = kvs ++ more
  | [], kvs, _ => by unfold mergeK; simp
  | p :: r, kvs, h => by
    have hp : putK kvs p.1 p.2 = kvs ++ [p] := by
      unfold putK
      rw [if_neg]
      intro q
      rw [List.any_eq_true] at q
      obtain ⟨z, hz, hq⟩ := q
      rw [decide_eq_true_eq] at hq
      rw [List.map_append, List.nodup_append] at h
      exact h.2.2 z.1 (List.mem_map_of_mem hz) p.1 (by simp) hq
    have := mergeK_app r (kvs ++ [p]) (by simpa using h)
    unfold mergeK at this ⊢
    rw [List.foldl_cons, hp, this]
    simp
theorem nodup_inl : ∀ (us : List (Int × V)), (us.map Prod.fst).Nodup → ((kvU us).map Prod.fst).Nodup
  | [], _ => .nil
  | p :: r, h => by
    rw [List.map_cons, List.nodup_cons] at h
    show (Sum.inl p.1 :: (kvU r).map Prod.fst).Nodup
    rw [List.nodup_cons]
    refine ⟨fun hm => h.1 ?_, nodup_inl r h.2⟩
    unfold kvU at hm
    rw [List.map_map, List.mem_map] at hm
    obtain ⟨z, hz, hq⟩ := hm
    have : z.1 = p.1 := Sum.inl.inj hq
    rw [← this]
    exact List.mem_map_of_mem hz
theorem mergeU {us : List (Int × V)} (h : (us.map Prod.fst).Nodup) : mergeK [] (kvU us) = kvU us := by
  rw [mergeK_app _ _ (by simpa using nodup_inl us h)]; rfl
/-- what stood new among others' becomes data -/
theorem Rep.give {K : Fr} {R G H : Hp} {ρ : Ro} {σ : St} {p : Addr} {ho ho' : HO} (r : Rep K (upd R p ho) G H ρ σ) (hR : R p = none) : Rep K R (upd G p ho') (upd H p ho') ρ σ := by
  have gp : G p = none := r.dis p ho upd_same
  have sg : Same G (upd G p ho') := fun b o q => by rw [upd_ne (ne_of_none q gp)]; exact q
  refine ⟨r.len, fun b o q => ?_, fun b o q => ?_, fun b o q => ?_, fun i s h => ?_, r.apart⟩
  · rw [upd_ne (ne_of_none q hR)]
    exact r.subR b o (by rw [upd_ne (ne_of_none q hR)]; exact q)
  · by_cases z : b = p
    · subst z; rw [upd_same] at q ⊢; exact q
    · rw [upd_ne z] at q ⊢; exact r.subG b o q
  · rw [upd_ne (ne_of_none q hR)]
    exact r.dis b o (by rw [upd_ne (ne_of_none q hR)]; exact q)
  · have := r.slot i s h
    cases s with
    | un => trivial
    | dat d =>
      obtain ⟨v, e, hd⟩ := this
      exact ⟨v, e, Dq_mono sg hd⟩
    | scr ns =>
      obtain ⟨a, e, hd⟩ := this
      exact ⟨a, e, sg.seq hd⟩
    | ref t =>
      exact SlT_mono sg this
    | own c =>
      obtain ⟨q, hq, e', a1, a2, a3, a4⟩ := this
      have hn : q ≠ p := fun z => by rw [z, upd_same] at a3; cases a3
      exact ⟨q, hq, e', by rw [upd_ne hn]; exact a1, by rw [upd_ne hn]; exact a2, by rw [upd_ne hn] at a3; exact a3, OwOk_mono sg a4⟩
theorem Rep.keep {K : Fr} {R G H : Hp} {ρ : Ro} {σ : St} {p : Addr} {ho : HO} (r : Rep K R G H ρ σ) (hp : H p = none) : Rep K (upd R p ho) G (upd H p ho) ρ σ := by
  have hR := r.subR.free hp
  have r1 := r.grow (Gr.junk (o := ho) r.subG hp)
  refine ⟨r1.len, fun b o q => ?_, r1.subG, fun b o q => ?_, fun i s h => ?_, r1.apart⟩
  · by_cases z : b = p
    · subst z; rw [upd_same] at q ⊢; exact q
    · rw [upd_ne z] at q ⊢; exact r.subR b o q
  · by_cases z : b = p
    · subst z
      cases g : G b with
      | none => rfl
      | some w => have := r.subG b w g; rw [hp] at this; cases this
    · rw [upd_ne z] at q; exact r.dis b o q
  · have := r1.slot i s h
    cases s with
    | un => trivial
    | dat d => exact this
    | scr ns => exact this
    | ref t => exact this
    | own c =>
      obtain ⟨q, hq, e', a1, a2, a3, a4⟩ := this
      obtain ⟨q2, hq2, e2, b1, _⟩ := r.slot i _ h
      rw [e'] at e2
      cases e2
      have hn : q ≠ p := fun z => by rw [z, hp] at b1; cases b1
      exact ⟨q, hq, e', a1, a2, by rw [upd_ne hn]; exact a3, a4⟩
theorem Rep.rekeep {K : Fr} {R G H : Hp} {ρ : Ro} {σ : St} {p : Addr} {ho ho' : HO} (r : Rep K (upd R p ho) G H ρ σ) : Rep K (upd R p ho') G (upd H p ho') ρ σ := by
  have gp : G p = none := r.dis p ho upd_same
  refine ⟨r.len, fun b o q => ?_, fun b o q => ?_, fun b o q => ?_, fun i s h => ?_, r.apart⟩
  · by_cases z : b = p
    · subst z; rw [upd_same] at q ⊢; exact q
    · rw [upd_ne z] at q ⊢; exact r.subR b o (by rw [upd_ne z]; exact q)
  · rw [upd_ne (ne_of_none q gp)]; exact r.subG b o q
  · by_cases z : b = p
    · subst z; exact gp
    · rw [upd_ne z] at q; exact r.dis b o (by rw [upd_ne z]; exact q)
  · have := r.slot i s h
    cases s with
    | un => trivial
    | dat d => exact this
    | scr ns => exact this
    | ref t => exact this
    | own c =>
      obtain ⟨q, hq, e', a1, a2, a3, a4⟩ := this
      have hn : q ≠ p := fun z => by rw [z, upd_same] at a3; cases a3
      exact ⟨q, hq, e', by rw [upd_ne hn]; exact a1, a2, by rw [upd_ne hn] at a3 ⊢; exact a3, a4⟩
abbrev KvR (K : Fr) (G : Hp) : Int × D → Key × V → Prop := fun p q => q.1 = Sum.inl p.1 ∧ Dq K G q.2 p.2
theorem kv_paired {K : Fr} {G : Hp} : ∀ {us : List (Key × V)} {t : List (Int × D)}, DqKv K G us (kvD t) → Paired (KvR K G) t us
  | us, [], h => by cases h; exact .nil
  | us, (i, d) :: t, h => by
    cases h with
    | cons hd ht => exact .cons ⟨rfl, hd⟩ (kv_paired ht)
theorem paired_kv {K : Fr} {G : Hp} : ∀ {us : List (Key × V)} {t : List (Int × D)}, Paired (KvR K G) t us → DqKv K G us (kvD t)
  | us, [], h => by cases h; exact .nil
  | (k, v) :: us, (i, d) :: t, .cons h r => by
    obtain ⟨h1, h2⟩ := h
    cases h1
    exact .cons h2 (paired_kv r)
def mkDict (ds : List D) : Option D := (pairs2 ds).bind fun t => if t.length ≤ 15 then some (.dict (kvD t)) else none
def oDict (m : M (List D)) : M Ow := fun ρ => (m ρ).bind fun p => (pairs2 p.1).bind fun t => if t.length ≤ 15 then some (.dk t, p.2) else none
section
variable {X : Cx} {a e o i : Expr} {es : List Expr} {pos p p2 p3 : Pos} {k : Nat} {x : Str}
theorem qe_dict {keys : List (Option Expr)} {values : List Expr} {m : M (List D)} (h : QP2 X pos keys values m) (hall : keys.all (·.isSome) = true := by rfl) (hl : keys.length = values.length := by rfl) (h0 : keys ≠ [] := by simp) (h15 : keys.length ≤ 15 := by decide) : QE X (.Dict keys values pos) (eApp mkDict m) := by
  obtain ⟨trs, h1, h2⟩ := h
  refine ⟨fun pins s σ H Q I q => ?_⟩
  obtain ⟨R, G, ρ, d, ρ', rp, e, k⟩ := q
  unfold eApp at e
  rw [Option.bind_eq_some_iff] at e
  obtain ⟨⟨ds, ρ1⟩, e1, e⟩ := e
  rw [Option.map_eq_some_iff] at e
  obtain ⟨z, e2, e⟩ := e
  cases e
  unfold mkDict at e2
  rw [Option.bind_eq_some_iff] at e2
  obtain ⟨t, e3, e2⟩ := e2
  split at e2
  · rename_i ht
    cases e2
    refine thn ((pe_disp h1 hall hl h0 h15).run pins s σ H (fun v H' => ∃ p H2 us, v = .ref p ∧ H' = upd H2 p (.dK us) ∧ ∀ ob, Q (.ref p) (upd H2 p (.frz ob (.dK us)))) I fun p hp => h2 σ _ _ ⟨upd R p (.dK []), G, ρ, ds, ρ1, rp.keep hp, e1, fun G1 H1 ps s1 r1 d1 => ?_⟩) fun u s1 ⟨v, H', I1, rv, p, H2, us, ev, eH, q⟩ => ?_
    · obtain ⟨us, a1, a2, a3, a4, a5⟩ := pairs2_ok ps ds t d1 e3
      have hn : (us.map Prod.fst).Nodup := by rw [a2]; exact a5
      refine ⟨r1.subR _ _ upd_same, kvU us, a1, ?_, p, H1, _, rfl, rfl, fun ob => ?_⟩
      · have : (kvU us).length = (kvD t).length := a3.length
        unfold kvD at this
        rw [List.length_map] at this
        omega
      · rw [mergeU hn]
        have rg := Rep.give (ho' := .frz ob (.dK (kvU us))) r1 (rp.subR.free hp)
        have gp : G1 p = none := r1.dis p _ upd_same
        have sg : Same G1 (upd G1 p (.frz ob (.dK (kvU us)))) := fun b w q => by rw [upd_ne (ne_of_none q gp)]; exact q
        exact k _ _ _ (s1.trans sg) rg (.dic upd_same (DqKv_mono sg a3))
    · subst ev eH
      obtain ⟨od, I2⟩ := I1.lock upd_same trivial
      rw [upd_upd] at I2
      exact ⟨.ref p, _, I2, rv, q od⟩
  · cases e2
theorem qo_dict {keys : List (Option Expr)} {values : List Expr} {m : M (List D)} (h : QP2 X pos keys values m) (hall : keys.all (·.isSome) = true := by rfl) (hl : keys.length = values.length := by rfl) (h0 : keys ≠ [] := by simp) (h15 : keys.length ≤ 15 := by decide) : QO X (.Dict keys values pos) (oDict m) := by
  obtain ⟨trs, h1, h2⟩ := h
  refine PE.imp (pe_disp h1 hall hl h0 h15) fun σ H Q q => ?_
  obtain ⟨R, G, ρ, d, ρ', rp, e, k⟩ := q
  unfold oDict at e
  rw [Option.bind_eq_some_iff] at e
  obtain ⟨⟨ds, ρ1⟩, e1, e⟩ := e
  rw [Option.bind_eq_some_iff] at e
  obtain ⟨t, e3, e2⟩ := e
  split at e2
  · rename_i ht
    cases e2
    intro p hp
    refine h2 σ _ _ ⟨upd R p (.dK []), G, ρ, ds, ρ1, rp.keep hp, e1, fun G1 H1 ps s1 r1 d1 => ?_⟩
    obtain ⟨us, a1, a2, a3, a4, a5⟩ := pairs2_ok ps ds t d1 e3
    have hn : (us.map Prod.fst).Nodup := by rw [a2]; exact a5
    refine ⟨r1.subR _ _ upd_same, kvU us, a1, ?_, ?_⟩
    · have : (kvU us).length = (kvD t).length := a3.length
      unfold kvD at this
      rw [List.length_map] at this
      omega
    · rw [mergeU hn]
      exact k G1 _ p s1 (Rep.pushO (Rep.rekeep r1) (kv_paired a3) (rp.subR.free hp))
  · cases e2
end

/-! ### own dicts -/
def ownK (ρ : Ro) (i : Nat) : Option (List (Int × D)) := match ρ[i]? with
  | some (.own (.dk t)) => some t
  | _ => none
theorem ownK_some {ρ : Ro} {i : Nat} {t : List (Int × D)} (h : ownK ρ i = some t) : ρ[i]? = some (.own (.dk t)) := by
  unfold ownK at h
  split at h
  · cases h; assumption
  · cases h
theorem Rep.ownKAt {K : Fr} {R G H : Hp} {ρ : Ro} {σ : St} {i : Nat} {t : List (Int × D)} (r : Rep K R G H ρ σ) (h : ρ[i]? = some (.own (.dk t))) : ∃ p us, σ[i]? = some (some (.ref p)) ∧ H p = some (.dK us) ∧ Paired (KvR K G) t us := by
  obtain ⟨p, ho, e, hp, gp, rp, x⟩ := r.slot i _ h
  cases ho <;> try exact x.elim
  exact ⟨p, _, e, hp, x⟩
def getK (t : List (Int × D)) (k : Int) : Option D := getD (kvD t) k
def putI (t : List (Int × D)) (k : Int) (d : D) : List (Int × D) := if (t.any fun p => decide (p.1 = k)) = true then t.map (fun p => if p.1 = k then (p.1, d) else p) else t ++ [(k, d)]
theorem put_paired {K : Fr} {G : Hp} {k : Int} {v : V} {d : D} (hd : Dq K G v d) {t : List (Int × D)} {us : List (Key × V)} (h : Paired (KvR K G) t us) : Paired (KvR K G) (putI t k d) (putK us (Sum.inl k) v) := by
  have ha : ∀ {t : List (Int × D)} {us : List (Key × V)}, Paired (KvR K G) t us → (t.any fun p => decide (p.1 = k)) = (us.any fun q => decide (q.1 = Sum.inl k)) := by
    intro t us h
    induction h with
    | nil => rfl
    | cons h _ ih =>
      rw [List.any_cons, List.any_cons, ih, h.1]
      congr 1
      simp
  have hm : ∀ {t : List (Int × D)} {us : List (Key × V)}, Paired (KvR K G) t us → Paired (KvR K G) (t.map (fun p => if p.1 = k then (p.1, d) else p)) (us.map (fun kv => if kv.1 = Sum.inl k then (kv.1, v) else kv)) := by
    intro t us h
    induction h with
    | nil => exact .nil
    | @cons a b as bs h _ ih =>
      rw [List.map_cons, List.map_cons]
      refine .cons ?_ ih
      obtain ⟨b1, b2⟩ := b
      obtain ⟨h1, h2⟩ := h
      simp only at h1
      subst h1
      by_cases q : a.1 = k
      · rw [if_pos q, if_pos (by rw [q])]; exact ⟨rfl, hd⟩
      · rw [if_neg q, if_neg (fun z => q (Sum.inl.inj z))]; exact ⟨rfl, h2⟩
  have hp : ∀ {t : List (Int × D)} {us : List (Key × V)}, Paired (KvR K G) t us → Paired (KvR K G) (t ++ [(k, d)]) (us ++ [(Sum.inl k, v)]) := by
    intro t us h
    induction h with
    | nil => exact .cons ⟨rfl, hd⟩ .nil
    | cons h _ ih => exact .cons h ih
  unfold putI putK
  rw [ha h]
  by_cases q : (us.any fun q => decide (q.1 = Sum.inl k)) = true
  · rw [if_pos q, if_pos q]; exact hm h
  · rw [if_neg q, if_neg q]; exact hp h
def eNotInOK (i : Nat) (a : M D) : M D := fun ρ => (a ρ).bind fun p => (ownK p.2 i).bind fun t => match p.1 with
  | .int k => some (.bool (!(getK t k).isSome), p.2)
  | _ => none
def eListOK (i : Nat) : M D := fun ρ => (ownK ρ i).map fun t => (.list (t.map fun p => .int p.1), ρ)
def sPutK (i : Nat) (a b : M D) : MS := fun ρ => (b ρ).bind fun p => (ownK p.2 i).bind fun _ => (a p.2).bind fun q => (ownK q.2 i).bind fun t => match q.1 with
  | .int k => if t.length < 1000000 then some (.nx, q.2.set i (.own (.dk (putI t k p.1)))) else none
  | _ => none
section
variable {X : Cx} {a b e : Expr} {pos p p2 p3 : Pos} {k : Nat} {x : Str}
theorem tDNotInO_of {i : Nat} {m : M D} {K : Fr} {σ : St} {H : Hp} {Q : VK} (h : tM K (eNotInOK i m) σ H Q) : tDNotIn (tM K m) (tVar i) σ H Q := by
  obtain ⟨R, G, ρ, d, ρ', rp, e, k⟩ := h
  unfold eNotInOK at e
  rw [Option.bind_eq_some_iff] at e
  obtain ⟨⟨y, ρ1⟩, h1, e⟩ := e
  rw [Option.bind_eq_some_iff] at e
  obtain ⟨t, h2, e⟩ := e
  cases y <;> try (cases e; done)
  rename_i j
  cases e
  refine ⟨R, G, ρ, .int j, _, rp, h1, fun G1 H1 v1 s1 r1 d1 => ?_⟩
  obtain ⟨q, us, eq, hq, pr⟩ := r1.ownKAt (ownK_some h2)
  cases d1
  refine ⟨.ref q, eq, ?_⟩
  rcases DqKv.val (k := j) (paired_kv pr) with ⟨q1, q2⟩ | ⟨d', v', q1, q2, q3⟩
  · exact ⟨q, none, rfl, .inl ⟨_, Sum.inl _, .inl hq, rfl, q2.symm⟩, k G1 H1 (.bl true) s1 r1 (by unfold getK; rw [q1]; exact .bl _)⟩
  · exact ⟨q, some v', rfl, .inl ⟨_, Sum.inl _, .inl hq, rfl, q2.symm⟩, k G1 H1 (.bl false) s1 r1 (by unfold getK; rw [q1]; exact .bl _)⟩
theorem qe_notInOK (i : Nat) {m : M D} (hr : Room k X.A) (ha : QE X a m) (hN : X.N[i]? = some x := by rfl) (hv : Vis X.env.scope x := by first | exact Or.inl rfl | exact Or.inr (Or.inl rfl) | exact Or.inr (Or.inr rfl)) (hd : (x == ("__debug__" : Str)) = false := by decide) (hcd : (x == ("__classdict__" : Str)) = false := by decide)
    (hm : behindInMarks .NotIn (.Name x p) = false := by first | exact nomark _ | rfl | (with_unfolding_all rfl)) : QE X (.Compare a [.NotIn] [.Name x p] pos) (eNotInOK i m) :=
  PE.imp (pe_cmp (pc_dnotin (units1 hr) ha (pe_var hN hv hd hcd)) hm) fun _ _ _ h => tDNotInO_of h
theorem qt_notInOK (i : Nat) {m : M D} (hr : Room k X.A) (ha : QE X a m) (hN : X.N[i]? = some x := by rfl) (hv : Vis X.env.scope x := by first | exact Or.inl rfl | exact Or.inr (Or.inl rfl) | exact Or.inr (Or.inr rfl)) (hd : (x == ("__debug__" : Str)) = false := by decide) (hcd : (x == ("__classdict__" : Str)) = false := by decide)
    (hm : behindInMarks .NotIn (.Name x p) = false := by first | exact nomark _ | rfl | (with_unfolding_all rfl)) : QT X (.Compare a [.NotIn] [.Name x p] pos) (cV (eNotInOK i m)) :=
  PT.imp (pt_cmp (pc_dnotin (units1 hr) ha (pe_var hN hv hd hcd)) hm) fun _ _ _ h => tDNotInO_of (tM_cV h)
theorem qs_putK (i : Nat) {m n : M D} (hr : Room k X.A) (ha : QE X a m) (hb : QE X b n) (hN : X.N[i]? = some x := by rfl) (hv : Vis X.env.scope x := by first | exact Or.inl rfl | exact Or.inr (Or.inl rfl) | exact Or.inr (Or.inr rfl)) (hd : (x == ("__debug__" : Str)) = false := by decide) (hcd : (x == ("__classdict__" : Str)) = false := by decide)
    (hs : swapsWith b (some (.Subscript (.Name x p) a p2)) pos.line X.env = pure false := by rfl) : QS X [] (.Assign [.Subscript (.Name x p) a p2] b pos) (sPutK i m n) := by
  refine PS.imp (ps_dput (units1 hr) (pe_var hN hv hd hcd) ha hb hs) fun E σ H h => ?_
  obtain ⟨R, G, ρ, f, ρ', rp, e, k⟩ := h
  unfold sPutK at e
  rw [Option.bind_eq_some_iff] at e
  obtain ⟨⟨y, ρ1⟩, h1, e⟩ := e
  rw [Option.bind_eq_some_iff] at e
  obtain ⟨t0, h0, e⟩ := e
  rw [Option.bind_eq_some_iff] at e
  obtain ⟨⟨z, ρ2⟩, h2, e⟩ := e
  rw [Option.bind_eq_some_iff] at e
  obtain ⟨t, h3, e⟩ := e
  cases z <;> try (cases e; done)
  rename_i j
  simp only at e
  split at e
  · rename_i hl
    cases e
    refine ⟨R, G, ρ, y, ρ1, rp, h1, fun G1 H1 v1 s1 r1 d1 => ?_⟩
    obtain ⟨q, us0, eq0, hq0, _⟩ := r1.ownKAt (ownK_some h0)
    refine ⟨.ref q, eq0, R, G1, ρ1, .int j, ρ2, r1, h2, fun G2 H2 v2 s2 r2 d2 => ?_⟩
    obtain ⟨q', us, eq, hq, dv⟩ := r2.ownKAt (ownK_some h3)
    rw [eq0] at eq
    cases eq
    cases d2
    refine ⟨_, _, rfl, .inl ⟨us, Sum.inl j, hq, rfl, ?_, rfl⟩, k G2 _ σ (s1.trans s2) (r2.write (ownK_some h3) eq0 (c' := .dk (putI t j y)) (ho := .dK (putK us (Sum.inl j) v1)) (put_paired (Dq_mono s2 d1) dv)) (.refl _ _)⟩
    have := Paired.length dv
    rw [← this, sizeLine_eq]
    omega
  · cases e
theorem qe_listOK (i : Nat) (hl : X.mg "list" = none) (hN : X.N[i]? = some x := by rfl) (hv : Vis X.env.scope x := by first | exact Or.inl rfl | exact Or.inr (Or.inl rfl) | exact Or.inr (Or.inr rfl)) (hd : (x == ("__debug__" : Str)) = false := by decide) (hcd : (x == ("__classdict__" : Str)) = false := by decide) (hc : X.calm = true := by rfl)
    (hg : Gl X "list" := by rfl) (hs : starEach [.Name x p] X.env = (false, eval (.Name x p) X.env) :: starEach [] X.env := by rfl) (hpl : (backTo pos (starEach [] X.env)).any (·.1) = false := by rfl) : QE X (.Call (.Name "list" p2) [.Name x p] [] pos) (eListOK i) := by
  refine PE.imp (pe_callTy (call_listD hc) hg hl (by decide +kernel) (pa_cons (pe_var hN hv hd hcd) pa_nil hs) (by decide) (by decide) hs hpl) fun σ H Q h => ?_
  obtain ⟨R, G, ρ, d, ρ', rp, e, k⟩ := h
  unfold eListOK at e
  rw [Option.map_eq_some_iff] at e
  obtain ⟨t, h1, e⟩ := e
  cases e
  obtain ⟨q, us, eq, hq, dv⟩ := rp.ownKAt (ownK_some h1)
  refine ⟨.ref q, eq, q, us, rfl, .inl hq, fun p hp => ?_⟩
  have g := Gr.new (o := .lst (us.map fun kv => kV kv.1)) rp.subG hp
  refine k _ _ _ g.gg (rp.grow g) (.lst upd_same (DqAll_mono g.gg ?_))
  have := (paired_kv dv).keys
  unfold keysOf kvD at this
  rw [List.map_map] at this
  exact this
end
end QL
set_option Elab.async false
set_option linter.all false
set_option maxRecDepth 100000
set_option maxHeartbeats 1000000
namespace QL
open PySem PySem.Spec PyProof.Rows L2

/-! ### slices -/
def cutD (xs : List D) (lo hi : Option Int) : List D := (xs.drop (HT.sIx xs.length 0 lo)).take (HT.sIx xs.length xs.length hi - HT.sIx xs.length 0 lo)
theorem cut_rel {K : Fr} {G : Hp} {vs : List V} {ds : List D} (h : DqAll K G vs ds) (lo hi : Option Int) : DqAll K G (cutV vs lo hi) (cutD ds lo hi) := by
  unfold cutV cutD
  rw [h.length]
  exact DqAll.take _ (DqAll.drop _ h)
def dSlice : D → Option Int → Option Int → Option D
  | .tuple ds, lo, hi => some (.tuple (cutD ds lo hi))
  | .list ds, lo, hi => some (.list (cutD ds lo hi))
  | _, _, _ => none
def tMPo (K : Fr) (m : M (Option Int)) : TO := fun σ H Q => ∃ R G ρ o ρ', Rep K R G H ρ σ ∧ m ρ = some (o, ρ') ∧ ∀ G' H', Same G G' → Rep K R G' H' ρ' σ → Q o H'
def QPo (X : Cx) (e : Option Expr) (m : M (Option Int)) : Prop := ∃ t, PO X e t ∧ ∀ σ H Q, tMPo X.K m σ H Q → t σ H Q
def pNone : M (Option Int) := fun ρ => some (none, ρ)
def pSome (a : M D) : M (Option Int) := fun ρ => (a ρ).bind fun p => match p.1 with
  | .int i => some (some i, p.2)
  | _ => none
def eSlice (a : M D) (lo hi : M (Option Int)) : M D := fun ρ => (a ρ).bind fun p => (lo p.2).bind fun q => (hi q.2).bind fun r => (dSlice p.1 q.1 r.1).map fun z => (z, r.2)
theorem whole_cut {xs : List D} {lo hi : Option Int} (h : HT.sIx xs.length 0 lo = 0 ∧ HT.sIx xs.length xs.length hi = xs.length) : cutD xs lo hi = xs := by
  unfold cutD
  rw [h.1, h.2]
  simp
section
variable {X : Cx} {e a : Expr} {es : List Expr} {lo hi : Option Expr} {pos p p2 p3 : Pos} {k : Nat} {x : Str}
theorem qpo_none : QPo X none pNone := ⟨_, po_none, fun σ H Q h => by
  obtain ⟨R, G, ρ, o, ρ', rp, e, k⟩ := h
  cases e
  exact k G H (.refl _) rp⟩
theorem qpo_some {m : M D} (h : QE X e m) : QPo X (some e) (pSome m) := ⟨_, po_some h, fun σ H Q h => by
  obtain ⟨R, G, ρ, o, ρ', rp, e, k⟩ := h
  unfold pSome at e
  rw [Option.bind_eq_some_iff] at e
  obtain ⟨⟨y, ρ1⟩, h1, e⟩ := e
  cases y <;> try (cases e; done)
  cases e
  refine ⟨R, G, ρ, _, _, rp, h1, fun G1 H1 v1 s1 r1 d1 => ?_⟩
  cases d1
  exact ⟨_, rfl, k G1 H1 s1 r1⟩⟩
theorem qe_slice {m : M D} {l h : M (Option Int)} (he : QE X e m) (hl : QPo X lo l) (hh : QPo X hi h) : QE X (.Subscript e (.Slice lo hi none p2) pos) (eSlice m l h) := by
  obtain ⟨tl, hl, il⟩ := hl
  obtain ⟨th, hh, ih⟩ := hh
  refine PE.imp (pe_slice (SlR.or sl_tupA sl_list) he hl hh) fun σ H Q h => ?_
  obtain ⟨R, G, ρ, d, ρ', rp, e, k⟩ := h
  unfold eSlice at e
  rw [Option.bind_eq_some_iff] at e
  obtain ⟨⟨y, ρ1⟩, h1, e⟩ := e
  rw [Option.bind_eq_some_iff] at e
  obtain ⟨⟨o1, ρ2⟩, h2, e⟩ := e
  rw [Option.bind_eq_some_iff] at e
  obtain ⟨⟨o2, ρ3⟩, h3, e⟩ := e
  rw [Option.map_eq_some_iff] at e
  obtain ⟨z, h4, e⟩ := e
  cases e
  refine ⟨R, G, ρ, y, ρ1, rp, h1, fun G1 H1 v1 s1 r1 d1 => il σ H1 _ ⟨R, G1, ρ1, o1, ρ2, r1, h2, fun G2 H2 s2 r2 => ih σ H2 _ ⟨R, G2, ρ2, o2, _, r2, h3, fun G3 H3 s3 r3 => ?_⟩⟩⟩
  have d1' := Dq_mono (s2.trans s3) d1
  cases y <;> try (cases h4; done)
  · cases h4
    rename_i ds
    cases d1' with
    | lst ha hs =>
      rename_i a0 xs0
      refine .inr ⟨_, _, rfl, SqL.of (r3.subG _ _ ha), fun p hp => ?_⟩
      have g := Gr.new (o := .lst (cutV xs0 o1 o2)) r3.subG hp
      exact k _ _ _ (((s1.trans s2).trans s3).trans g.gg) (r3.grow g) (.lst upd_same (DqAll_mono g.gg (cut_rel hs o1 o2)))
  · cases h4
    rename_i ds
    cases id d1' with
    | tup ha hs =>
      rename_i a0 xs0
      refine .inl ⟨_, _, rfl, SqT_mono r3.subG ha, fun hw => ?_, fun _ p hp => ?_⟩
      · rw [hs.length] at hw
        exact k _ _ _ ((s1.trans s2).trans s3) r3 (by rw [whole_cut hw]; exact d1')
      · have g := Gr.new (o := .tup (cutV xs0 o1 o2)) r3.subG hp
        exact k _ _ _ (((s1.trans s2).trans s3).trans g.gg) (r3.grow g) (.tup (SqT.of upd_same) (DqAll_mono g.gg (cut_rel hs o1 o2)))

/-! ### list(range(..)) -/
theorem rgV_rel {K : Fr} {G : Hp} (a b : Int) : DqAll K G (rgV a b) (intsD a (b - a).toNat) := by
  have : ∀ l : List Nat, DqAll K G (l.map fun (i : Nat) => V.int (a + i)) (l.map fun (i : Nat) => PyData.int (a + i)) := by
    intro l
    induction l with
    | nil => exact .nil
    | cons a l ih => exact .cons (.int _) ih
  exact this _
def rgB (a b : Int) : Bool := decide (a.natAbs < 2 ^ 62 ∧ b.natAbs < 2 ^ 62 ∧ (b - a).toNat ≤ 2 ^ 24)
theorem rgB_ok {a b : Int} (h : rgB a b = true) : RgOk a b := by
  unfold rgB at h
  have := of_decide_eq_true h
  exact ⟨by omega, by omega, by omega, by omega, this.2.2⟩
def rgBnd : List D → Option (Int × Int)
  | [.int b] => if rgB 0 b then some (0, b) else none
  | [.int a, .int b] => if rgB a b then some (a, b) else none
  | _ => none
def dListRange (ds : List D) : Option D := (rgBnd ds).map fun p => .list (intsD p.1 (p.2 - p.1).toNat)
def dTupRange (ds : List D) : Option D := (rgBnd ds).map fun p => .tuple (intsD p.1 (p.2 - p.1).toNat)
def oListRange (m : M (List D)) : M Ow := fun ρ => (m ρ).bind fun p => (rgBnd p.1).map fun q => (.lst (intsD q.1 (q.2 - q.1).toNat), p.2)
def tRgM (K : Fr) (m : M (List D)) : St → Hp → (Int → Int → Hp → Prop) → Prop := fun σ H Q => ∃ R G ρ ds ρ' a b, Rep K R G H ρ σ ∧ m ρ = some (ds, ρ') ∧ rgBnd ds = some (a, b) ∧ ∀ G' H', Same G G' → Rep K R G' H' ρ' σ → Q a b H'
def QRg (X : Cx) (e : Expr) (m : M (List D)) : Prop := ∃ t, PRg X e t ∧ ∀ σ H Q, tRgM X.K m σ H Q → t σ H Q
theorem rgBnd_ok {ds : List D} {a b : Int} (h : rgBnd ds = some (a, b)) : RgOk a b ∧ ((a = 0 ∧ ds = [.int b]) ∨ ds = [.int a, .int b]) := by
  unfold rgBnd at h
  split at h
  · split at h
    · rename_i q
      cases h
      exact ⟨rgB_ok q, .inl ⟨rfl, rfl⟩⟩
    · cases h
  · split at h
    · rename_i q
      cases h
      exact ⟨rgB_ok q, .inr rfl⟩
    · cases h
  · cases h
theorem aCons_some {m : M D} {r : M (List D)} {ρ ρ' : Ro} {ds : List D} (h : aCons m r ρ = some (ds, ρ')) : ∃ x ρ1 ys, m ρ = some (x, ρ1) ∧ r ρ1 = some (ys, ρ') ∧ ds = x :: ys := by
  unfold aCons at h
  rw [Option.bind_eq_some_iff] at h
  obtain ⟨⟨x, ρ1⟩, h1, h⟩ := h
  rw [Option.map_eq_some_iff] at h
  obtain ⟨⟨ys, ρ2⟩, h2, h⟩ := h
  cases h
  exact ⟨x, ρ1, ys, h1, h2, rfl⟩
theorem qrg_1 {m : M D} (hm : X.mg "range" = none) (ha : QE X a m) (hg : Gl X "range" := by rfl) (na : starEach [a] X.env = (false, eval a X.env) :: starEach [] X.env := by rfl) : QRg X (.Call (.Name "range" p) [a] [] pos) (aCons m aNil) :=
  ⟨_, prg_1 hg hm ha na, fun σ H Q h => by
    obtain ⟨R, G, ρ, ds, ρ', a, b, rp, e, hb, k⟩ := h
    obtain ⟨x, ρ1, ys, h1, h2, e⟩ := aCons_some e
    cases h2
    subst e
    obtain ⟨_, ⟨rfl, q⟩ | q⟩ := rgBnd_ok hb
    · cases q
      refine ⟨R, G, ρ, _, _, rp, h1, fun G1 H1 v1 s1 r1 d1 => ?_⟩
      cases d1
      exact ⟨_, rfl, k G1 H1 s1 r1⟩
    · cases q⟩
theorem qrg_2 {m n : M D} {b : Expr} (hm : X.mg "range" = none) (ha : QE X a m) (hb : QE X b n) (hg : Gl X "range" := by rfl) (na : starEach [a, b] X.env = (false, eval a X.env) :: starEach [b] X.env := by rfl)
    (nb : starEach [b] X.env = (false, eval b X.env) :: starEach [] X.env := by rfl) (hp : (backTo pos (starEach [b] X.env)).any (·.1) = false := by rfl) : QRg X (.Call (.Name "range" p) [a, b] [] pos) (aCons m (aCons n aNil)) :=
  ⟨_, prg_2 hg hm ha hb na nb hp, fun σ H Q h => by
    obtain ⟨R, G, ρ, ds, ρ', a, b, rp, e, hb, k⟩ := h
    obtain ⟨x, ρ1, ys, h1, h2, e⟩ := aCons_some e
    obtain ⟨y, ρ2, zs, h3, h4, e2⟩ := aCons_some h2
    cases h4
    subst e2 e
    obtain ⟨_, ⟨rfl, q⟩ | q⟩ := rgBnd_ok hb
    · cases q
    · cases q
      refine ⟨R, G, ρ, _, _, rp, h1, fun G1 H1 v1 s1 r1 d1 => ⟨R, G1, ρ1, _, _, r1, h3, fun G2 H2 v2 s2 r2 d2 => ?_⟩⟩
      cases d1
      cases d2
      exact ⟨_, _, rfl, rfl, k G2 H2 (s1.trans s2) r2⟩⟩
theorem eApp_some {f : List D → Option D} {m : M (List D)} {ρ ρ' : Ro} {d : D} (h : eApp f m ρ = some (d, ρ')) : ∃ ds, m ρ = some (ds, ρ') ∧ f ds = some d := by
  unfold eApp at h
  rw [Option.bind_eq_some_iff] at h
  obtain ⟨⟨x, ρ1⟩, h1, h⟩ := h
  rw [Option.map_eq_some_iff] at h
  obtain ⟨xs, h2, h⟩ := h
  cases h
  exact ⟨x, h1, h2⟩
theorem qe_listRange {m : M (List D)} (hl : X.mg "list" = none) (he : QRg X e m) (hc : X.calm = true := by rfl) (hg : Gl X "list" := by rfl) (na : starEach [e] X.env = (false, eval e X.env) :: starEach [] X.env := by rfl) : QE X (.Call (.Name "list" p) [e] [] pos) (eApp dListRange m) := by
  obtain ⟨t, he, ht⟩ := he
  refine PE.imp (pe_listRg hc hg hl he na) fun σ H Q h => ht σ H _ ?_
  obtain ⟨R, G, ρ, d, ρ', rp, e, k⟩ := h
  obtain ⟨ds, h1, h2⟩ := eApp_some e
  unfold dListRange at h2
  rw [Option.map_eq_some_iff] at h2
  obtain ⟨⟨a, b⟩, hb, h2⟩ := h2
  cases h2
  refine ⟨R, G, ρ, ds, _, a, b, rp, h1, hb, fun G1 H1 s1 r1 => ⟨(rgBnd_ok hb).1, fun q hq => ?_⟩⟩
  have g := Gr.new (o := .lst (rgV a b)) r1.subG hq
  exact k _ _ _ (s1.trans g.gg) (r1.grow g) (.lst upd_same (rgV_rel a b))
theorem qe_tupRange {m : M (List D)} (hl : X.mg "tuple" = none) (he : QRg X e m) (hc : X.calm = true := by rfl) (hg : Gl X "tuple" := by rfl) (na : starEach [e] X.env = (false, eval e X.env) :: starEach [] X.env := by rfl) : QE X (.Call (.Name "tuple" p) [e] [] pos) (eApp dTupRange m) := by
  obtain ⟨t, he, ht⟩ := he
  refine PE.imp (pe_tupRg hc hg hl he na) fun σ H Q h => ht σ H _ ?_
  obtain ⟨R, G, ρ, d, ρ', rp, e, k⟩ := h
  obtain ⟨ds, h1, h2⟩ := eApp_some e
  unfold dTupRange at h2
  rw [Option.map_eq_some_iff] at h2
  obtain ⟨⟨a, b⟩, hb, h2⟩ := h2
  cases h2
  refine ⟨R, G, ρ, ds, _, a, b, rp, h1, hb, fun G1 H1 s1 r1 => ⟨(rgBnd_ok hb).1, fun q hq => ?_⟩⟩
  have g := Gr.new (o := .tup (rgV a b)) r1.subG hq
  exact k _ _ _ (s1.trans g.gg) (r1.grow g) (.tup (SqT.of upd_same) (rgV_rel a b))
theorem qo_listRange {m : M (List D)} (hl : X.mg "list" = none) (he : QRg X e m) (hc : X.calm = true := by rfl) (hg : Gl X "list" := by rfl) (na : starEach [e] X.env = (false, eval e X.env) :: starEach [] X.env := by rfl) : QO X (.Call (.Name "list" p) [e] [] pos) (oListRange m) := by
  obtain ⟨t, he, ht⟩ := he
  refine PE.imp (pe_listRg hc hg hl he na) fun σ H Q h => ht σ H _ ?_
  obtain ⟨R, G, ρ, c, ρ', rp, e, k⟩ := h
  unfold oListRange at e
  rw [Option.bind_eq_some_iff] at e
  obtain ⟨⟨ds, ρ1⟩, h1, e⟩ := e
  rw [Option.map_eq_some_iff] at e
  obtain ⟨⟨a, b⟩, hb, h2⟩ := e
  cases h2
  refine ⟨R, G, ρ, ds, _, a, b, rp, h1, hb, fun G1 H1 s1 r1 => ⟨(rgBnd_ok hb).1, fun q hq => ?_⟩⟩
  exact k G1 _ q s1 (r1.pushNew hq (ho := .lst (rgV a b)) (rgV_rel a b))

/-! ### enumerate -/
def enumL (ds : List D) : List D := (List.range ds.length).zipWith (fun i d => .tuple [.int (i : Nat), d]) ds
def enumD : List D → Option (List D)
  | [.list ds] => some (enumL ds)
  | _ => none
theorem enumL_length (ds : List D) : (enumL ds).length = ds.length := by simp [enumL]
theorem enumL_get {ds : List D} {i : Nat} {d : D} (h : (enumL ds)[i]? = some d) : ∃ x, ds[i]? = some x ∧ d = .tuple [.int (i : Nat), x] := by
  unfold enumL at h
  rw [List.getElem?_zipWith] at h
  have hi : i < ds.length := by
    cases q : ds[i]? with
    | none => rw [q] at h; simp at h
    | some x => exact (List.getElem?_eq_some_iff.mp q).1
  rw [List.getElem?_range hi, List.getElem?_eq_getElem hi] at h
  cases h
  exact ⟨_, List.getElem?_eq_getElem hi, rfl⟩
theorem walk_enum {K : Fr} {G : Hp} {a : Addr} {xs : List D} (ha : Dq K G (.ref a) (.list xs)) : WalkD K (Ite K a) G (enumL xs) := by
  cases ha with
  | lst h1 a1 =>
    rename_i us
    have sq1 : ∀ G' H, Same G G' → Same G' H → SqL K H a us := fun G' H s1 s2 => SqL.of (s2 _ _ (s1 _ _ h1))
    have l1 := a1.length
    refine ⟨fun i G' H s1 s2 hi => ?_, fun i G' H s1 s2 hi => ?_, fun i G' H v H' d s1 s2 hd hy => ?_⟩
    · rw [enumL_length] at hi
      exact ⟨us, us[i]'(by omega), sq1 G' H s1 s2, by simp⟩
    · rw [enumL_length] at hi
      exact ⟨us, sq1 G' H s1 s2, by omega⟩
    · obtain ⟨T, x, rfl, hT, rfl, f1⟩ := hy
      obtain ⟨dx, e1, rfl⟩ := enumL_get hd
      refine ⟨_, Gr.new s2 hT, .tup (SqT.of upd_same) ?_⟩
      have gg := (Gr.new (o := .tup [.int (i : Nat), x]) s2 hT).gg
      exact .cons (.int _) (.cons (Dq_mono (s1.trans gg) (a1.idx e1 (f1 us (sq1 G' H s1 s2)))) .nil)
theorem qi_enumerate {m : M (List D)} {elts : List Expr} {kk : Nat} {tpos : Pos} (hm : X.mg "enumerate" = none) (ha : QA X [e] m) (hg : Gl X "enumerate" := by rfl) (hs : starEach [e] X.env = [(false, eval e X.env)] := by rfl) :
    QI X (.Tuple elts kk tpos) (.Call (.Name "enumerate" p) [e] [] pos) (iApp enumD m) := by
  refine PI.imp (pi_enum hg hm ha hs) fun σ H Q h => ?_
  obtain ⟨R, G, ρ, ds, ρ', rp, e, k⟩ := h
  obtain ⟨xs, h1, h2⟩ := iApp_some e
  refine ⟨R, G, ρ, _, _, rp, h1, fun G1 H1 v1 s1 r1 d1 => ?_⟩
  unfold enumD at h2
  split at h2
  · cases h2
    cases d1 with
    | cons da dr =>
      cases dr
      cases id da with
      | lst ha1 _ => exact ⟨_, _, rfl, SqL.of (r1.subG _ _ ha1), k G1 H1 _ s1 r1 (walk_enum da)⟩
  · cases h2

/-! ### an own thing goes to another name -/
def oVar (j : Nat) : M Ow := fun ρ => match ρ[j]? with
  | some (.own c) => some (c, ρ.set j .un)
  | _ => none
theorem Rep.lend {K : Fr} {R G H : Hp} {ρ : Ro} {σ : St} {j : Nat} {c : Ow} (r : Rep K R G H ρ σ) (h : ρ[j]? = some (.own c)) : ∃ p, σ[j]? = some (some (.ref p)) ∧ Rep K R G H (ρ.set j .un ++ [.own c]) (σ ++ [some (.ref p)]) := by
  obtain ⟨p, ho, e, hp, gp, hR, x⟩ := r.slot j _ h
  refine ⟨p, e, Rep.pushO (ho := ho) ⟨by rw [List.length_set]; exact r.len, fun b o q => ?_, r.subG, fun b o q => ?_, fun i s hs => ?_, fun i l c1 c2 q h1 h2 h3 h4 => ?_⟩ x hR⟩
  · by_cases z : b = p
    · subst z; rw [upd_same] at q; cases q; exact hp
    · rw [upd_ne z] at q; exact r.subR b o q
  · by_cases z : b = p
    · subst z; exact gp
    · rw [upd_ne z] at q; exact r.dis b o q
  · by_cases hij : j = i
    · subst hij
      have hl : j < ρ.length := (List.getElem?_eq_some_iff.mp h).1
      rw [List.getElem?_set_self hl] at hs
      cases hs
      trivial
    · rw [List.getElem?_set_ne hij] at hs
      have := r.slot i s hs
      cases s with
      | un => trivial
      | dat d => exact this
      | scr ns => exact this
      | ref t => exact this
      | own c1 =>
        obtain ⟨q, hq, e', a1, a2, a3, a4⟩ := this
        have hn : q ≠ p := fun z => by
          subst z
          exact hij (r.apart j i c c1 q h hs e e')
        exact ⟨q, hq, e', a1, a2, by rw [upd_ne hn]; exact a3, a4⟩
  · have key : ∀ (i : Nat) (c1 : Ow), (ρ.set j Sl.un)[i]? = some (.own c1) → ρ[i]? = some (.own c1) := fun i c1 hi => by
      by_cases hij : j = i
      · subst hij
        have hl : j < ρ.length := (List.getElem?_eq_some_iff.mp h).1
        rw [List.getElem?_set_self hl] at hi
        cases hi
      · rw [List.getElem?_set_ne hij] at hi; exact hi
    exact r.apart i l c1 c2 q (key i c1 h1) (key l c2 h2) h3 h4
theorem qo_var (j : Nat) (hN : X.N[j]? = some x := by rfl) (hv : Vis X.env.scope x := by first | exact Or.inl rfl | exact Or.inr (Or.inl rfl) | exact Or.inr (Or.inr rfl)) (hd : (x == ("__debug__" : Str)) = false := by decide) (hcd : (x == ("__classdict__" : Str)) = false := by decide) : QO X (.Name x p) (oVar j) := by
  refine PE.imp (pe_var hN hv hd hcd) fun σ H Q h => ?_
  obtain ⟨R, G, ρ, c, ρ', rp, e, k⟩ := h
  unfold oVar at e
  split at e
  · rename_i c0 h0
    cases e
    obtain ⟨q, eq, r1⟩ := rp.lend h0
    exact ⟨.ref q, eq, k G H q (.refl _) r1⟩
  · cases e

/-! ### x[a], x[b] = e, x one's own list -/
def gIxO (i : Nat) (a : M D) (d : D) (ρ : Ro) : Option Ro := (ownL ρ i).bind fun _ => (a ρ).bind fun q => (ownL q.2 i).bind fun ds => match q.1 with
  | .int j => (ixN ds.length j).map fun n => q.2.set i (.own (.lst (ds.set n d)))
  | _ => none
def sSwap (i : Nat) (a b e : M D) : MS := fun ρ => (e ρ).bind fun p => match p.1 with
  | .tuple [d1, d2] => (gIxO i a d1 p.2).bind fun ρ1 => (gIxO i b d2 ρ1).map fun ρ2 => (.nx, ρ2)
  | _ => none
theorem gIxO_ok {K : Fr} {i : Nat} {a : M D} {d : D} {v : V} {R G H : Hp} {ρ ρ' : Ro} {σ : St} {Q : L2.St → Hp → Prop} (rp : Rep K R G H ρ σ) (hd : Dq K G v d) (e : gIxO i a d ρ = some ρ') (k : ∀ G' H', Same G G' → Rep K R G' H' ρ' σ → Q σ H') :
    gSub (tVar i) (tM K a) rSetL v σ H Q := by
  unfold gIxO at e
  rw [Option.bind_eq_some_iff] at e
  obtain ⟨ds0, h0, e⟩ := e
  rw [Option.bind_eq_some_iff] at e
  obtain ⟨⟨z, ρ2⟩, h2, e⟩ := e
  rw [Option.bind_eq_some_iff] at e
  obtain ⟨ds, h3, e⟩ := e
  cases z <;> try (cases e; done)
  rename_i j
  simp only at e
  rw [Option.map_eq_some_iff] at e
  obtain ⟨l, hl, e⟩ := e
  cases e
  obtain ⟨q, vs0, eq0, hq0, _⟩ := rp.ownAt (ownL_some h0)
  refine ⟨.ref q, eq0, R, G, ρ, .int j, ρ2, rp, h2, fun G2 H2 v2 s2 r2 d2 => ?_⟩
  obtain ⟨q', vs, eq, hq, dv⟩ := r2.ownAt (ownL_some h3)
  rw [eq0] at eq
  cases eq
  cases d2
  refine ⟨_, vs, j, l, rfl, rfl, hq, by rw [dv.length]; exact hl, k G2 _ s2 (r2.write (ownL_some h3) eq0 (c' := .lst (ds.set l d)) (ho := .lst (vs.set l v)) ?_)⟩
  exact DqAll.set (Dq_mono s2 hd) l dv
theorem qs_swap (i : Nat) {m n l : M D} {b : Expr} {pa pb px py : Pos} {kt : Nat} {pt : Pos} (ha : QE X a m) (hb : QE X b n) (he : QE X e l) (hN : X.N[i]? = some x := by rfl) (hv : Vis X.env.scope x := by first | exact Or.inl rfl | exact Or.inr (Or.inl rfl) | exact Or.inr (Or.inr rfl)) (hd : (x == ("__debug__" : Str)) = false := by decide) (hcd : (x == ("__classdict__" : Str)) = false := by decide) (hc : X.calm = true := by rfl)
    (hs : swapsWithSole [.Tuple [.Subscript (.Name x px) a pa, .Subscript (.Name x py) b pb] kt pt] e pos.line X.env = pure false := by rfl) (hw : swappedStores [.Tuple [.Subscript (.Name x px) a pa, .Subscript (.Name x py) b pb] kt pt] e X.env = pure none := by rfl)
    (h1 : (assignEach [.Tuple [.Subscript (.Name x px) a pa, .Subscript (.Name x py) b pb] kt pt] X.env).map (·.2) = [assign (.Tuple [.Subscript (.Name x px) a pa, .Subscript (.Name x py) b pb] kt pt) X.env] := by rfl)
    (has : ∀ v, assign (.Subscript (.Name x px) a pa) X.env v = (do
      let ov ← holding [v] (eval (.Name x px) X.env)
      let iv ← holding [v, ov] (eval a X.env)
      standAt pa
      holding [v, ov, iv] (setItem ov iv v)
      release [v, ov, iv] []) := by intro _; rfl)
    (hbs : ∀ v, assign (.Subscript (.Name x py) b pb) X.env v = (do
      let ov ← holding [v] (eval (.Name x py) X.env)
      let iv ← holding [v, ov] (eval b X.env)
      standAt pb
      holding [v, ov, iv] (setItem ov iv v)
      release [v, ov, iv] []) := by intro _; rfl)
    (hn : (assignEach [.Subscript (.Name x px) a pa, .Subscript (.Name x py) b pb] X.env).length = 2 := by rfl) (hst : (assignEach [.Subscript (.Name x px) a pa, .Subscript (.Name x py) b pb] X.env).findIdx? (·.1) = none := by rfl)
    (hs1 : (assignEach [.Subscript (.Name x px) a pa, .Subscript (.Name x py) b pb] X.env).map (·.2) = assign (.Subscript (.Name x px) a pa) X.env :: (assignEach [.Subscript (.Name x py) b pb] X.env).map (·.2) := by rfl)
    (hs2 : (assignEach [.Subscript (.Name x py) b pb] X.env).map (·.2) = assign (.Subscript (.Name x py) b pb) X.env :: (assignEach [] X.env).map (·.2) := by rfl) :
    QS X [] (.Assign [.Tuple [.Subscript (.Name x px) a pa, .Subscript (.Name x py) b pb] kt pt] e pos) (sSwap i m n l) := by
  refine PS.imp (ps_asg he (pg_tup hc (pgs_cons (pg_sub (pe_var hN hv hd hcd) ha set_list has) (pgs_cons (pg_sub (pe_var hN hv hd hcd) hb set_list hbs) pgs_nil hs2) hs1) hn hst) hs hw h1) fun E σ H h => ?_
  obtain ⟨R, G, ρ, f, ρ', rp, e, k⟩ := h
  unfold sSwap at e
  rw [Option.bind_eq_some_iff] at e
  obtain ⟨⟨y, ρ1⟩, e1, e⟩ := e
  simp only at e
  split at e
  · rename_i d1 d2 _
    rw [Option.bind_eq_some_iff] at e
    obtain ⟨ρ2, e2, e⟩ := e
    rw [Option.map_eq_some_iff] at e
    obtain ⟨ρ3, e3, e⟩ := e
    cases e
    refine ⟨R, G, ρ, _, ρ1, rp, e1, fun G1 H1 v1 s1 r1 t1 => ?_⟩
    cases t1 with
    | tup hq hs =>
      rename_i q xs
      cases hs with
      | cons da hs =>
        cases hs with
        | cons db hs =>
          cases hs
          refine ⟨q, _, rfl, SqT_mono r1.subG hq, rfl, _, _, rfl, gIxO_ok r1 da e2 fun G2 H2 s2 r2 => ⟨_, _, rfl, gIxO_ok r2 (Dq_mono s2 db) e3 fun G3 H3 s3 r3 => ⟨rfl, k G3 H3 σ ((s1.trans s2).trans s3) r3 (.refl _ _)⟩⟩⟩
  · cases e
end

/-! ### defs that keep what they are given -/
def noOwn : Sl → Sl
  | .own _ => .un
  | s => s
def endC (ss : List Sl) : Fl × Ro → Option (D × List Sl)
  | (.rt d, _) => some (d, ss.map noOwn)
  | (.nx, _) => some (.none, ss.map noOwn)
  | _ => none
def runC (n N : Nat) (body : MS) : List Sl → Option (D × List Sl) := fun ss => if ss.length = n ∧ n ≤ N then (body (ss ++ List.replicate (N - n) Sl.un)).bind (endC ss) else none
theorem noOwn_ne {s : Sl} {c : Ow} : noOwn s ≠ .own c := by cases s <;> exact fun h => nomatch h
theorem runC_ok {n N : Nat} {body : MS} : FOk n (runC n N body) where
  len := by
    intro ss r h
    unfold runC at h
    split at h
    · rename_i z; exact z.1
    · cases h
  own := by
    intro ss d ss' l c h e
    unfold runC at h
    split at h
    · rw [Option.bind_eq_some_iff] at h
      obtain ⟨⟨f, ρ'⟩, h1, h⟩ := h
      have key : ss' = ss.map noOwn := by cases f <;> cases h <;> rfl
      subst key
      rw [List.getElem?_map, Option.map_eq_some_iff] at e
      obtain ⟨s, _, e⟩ := e
      exact absurd e noOwn_ne
    · cases h
theorem fnC {P : Program} {w : World} {K : Fr} {mg : Str → Option Value} {base : Heap} {x qual : Str} {st : Stmt} {f : Addr} {fd : FuncData} {N ps : List Str} {k : Nat} {W : List Nat} {body : MS} (F : Fun K x qual st f fd) (S : FnScope N ps (defScope st))
    (h : ∀ (cdv : Value) (A : Around) (outer : List Env) (s : Shared) (H : Hp) (E : XK), Room k (A.deeper (envOfC qual (defScope st) s.heap.objs.size f cdv)) → QSs (cxOf CX0 P w K mg base N qual (defScope st) f cdv A outer s H E).nox W (defBody st) body)
    (hN : ps.length ≤ N.length := by decide) : FnOk P w K mg base CX0 (k + 1) f fd ps (spO K (runC ps.length N.length body) ps.length) := by
  refine F.ok S (fun vs H Q E h => h.1) (fun cdv A outer s H vs Q E hr hsp => ⟨_, h cdv A outer s H E hr, ?_⟩)
  obtain ⟨hl, R, G, ss, d, ss', rp, e, k⟩ := hsp
  unfold runC at e
  split at e
  · rename_i hn
    obtain ⟨hn, _⟩ := hn
    rw [Option.bind_eq_some_iff] at e
    obtain ⟨⟨fl, ρ'⟩, h1, e⟩ := e
    have hss : ss.length = vs.length := by rw [hn, hl]
    have sget : ∀ l : Nat, l < vs.length → (L2.start N vs)[l]? = (vs.map some)[l]? := fun l hl' => by
      show (vs.map some ++ _)[l]? = _
      rw [List.getElem?_append_left (by simpa using hl')]
    have rep0 : Rep K R G H (ss ++ List.replicate (N.length - ps.length) Sl.un) (L2.start N vs) := by
      have key : ∀ (i : Nat) (t : Sl), (ss ++ List.replicate (N.length - ps.length) Sl.un)[i]? = some t → t = .un ∨ (ss[i]? = some t ∧ (L2.start N vs)[i]? = (vs.map some)[i]?) := fun i t ht => by
        by_cases hi : i < ss.length
        · rw [List.getElem?_append_left hi] at ht
          exact .inr ⟨ht, sget i (by rw [← hss]; exact hi)⟩
        · rw [List.getElem?_append_right (by omega), List.getElem?_replicate] at ht
          split at ht
          · exact .inl (Option.some.inj ht).symm
          · cases ht
      refine ⟨?_, rp.subR, rp.subG, rp.dis, fun i t ht => ?_, fun i j c c' p h1 h2 h3 h4 => ?_⟩
      · simp [L2.start, hss, hl]
      · rcases key i t ht with rfl | ⟨a, b⟩
        · trivial
        · rw [b]; exact rp.slot i t a
      · rcases key i _ h1 with z | ⟨a, b⟩
        · cases z
        · rcases key j _ h2 with z | ⟨a2, b2⟩
          · cases z
          · rw [b] at h3; rw [b2] at h4
            exact rp.apart i j c c' p a a2 h3 h4
    have fin : ∀ G' H' (σ' : L2.St), Same G G' → Rep K R G' H' ρ' σ' → Rep K R G' H' (ss.map noOwn) (vs.map some) := fun G' H' σ' sG r => by
      refine ⟨by rw [List.length_map, List.length_map]; exact hss, r.subR, r.subG, r.dis, fun l t ht => ?_, fun i j c c' p h1 h2 h3 h4 => ?_⟩
      · rw [List.getElem?_map, Option.map_eq_some_iff] at ht
        obtain ⟨s0, a, e⟩ := ht
        subst e
        have so := rp.slot l s0 a
        cases s0 with
        | un => trivial
        | dat d => obtain ⟨v, e, x⟩ := so; exact ⟨v, e, Dq_mono sG x⟩
        | scr ns => obtain ⟨v, e, x⟩ := so; exact ⟨v, e, sG.seq x⟩
        | ref t => exact SlT_mono sG so
        | own c0 => trivial
      · rw [List.getElem?_map, Option.map_eq_some_iff] at h1
        obtain ⟨s, _, e⟩ := h1
        exact absurd e noOwn_ne
    refine ⟨R, G, _, fl, ρ', rep0, h1, ?_⟩
    cases fl with
    | nx =>
      cases e
      intro G' H' σ' s r fr
      exact k G' H' _ s (fin G' H' σ' s r) .non
    | bk => cases e
    | ct => cases e
    | rt d =>
      cases e
      exact fun G' H' σ' v s r fr dv => k G' H' v s (fin G' H' σ' s r) dv
  · cases e
end QL
set_option Elab.async false
set_option linter.all false
set_option maxRecDepth 100000
set_option maxHeartbeats 1000000
namespace QL
open PySem PySem.Spec PyProof.Rows L2
section
variable {X : Cx} {pos : Pos}
/-! ### a, b, c = x, y, z -/
def sPar3 (i j l : Nat) (as : M (List Sl)) : MS := fun ρ => (as ρ).bind fun p => match p.1 with
  | [x, y, z] => if noScr x && noScr y && noScr z && decide (j < p.2.length) && decide (l < p.2.length) then some (.nx, ((p.2.set i x).set j y).set l z) else none
  | _ => none
theorem qs_par3 {i j l : Nat} {x y z : Str} {a b c : Expr} {m : M (List Sl)} {px py pz pt : Pos} {kt k2 pt2} (hN : X.N.Nodup) (ha : QX X [a, b, c] m) (hc : X.calm = true := by rfl) (hi : X.N[i]? = some x := by rfl) (hj : X.N[j]? = some y := by rfl) (hl : X.N[l]? = some z := by rfl) (hij : i ≠ j := by decide) (hil : i ≠ l := by decide) (hjl : j ≠ l := by decide)
    (hx : X.env.scope.names.lookup x = some .local := by rfl) (hy : X.env.scope.names.lookup y = some .local := by rfl) (hz : X.env.scope.names.lookup z = some .local := by rfl)
    (hw : swappedStores [.Tuple [.Name x px, .Name y py, .Name z pz] kt pt] (.Tuple [a, b, c] k2 pt2) X.env = pure (some [x, y, z]) := by rfl)
    (hs : swapsWithSole [.Tuple [.Name x px, .Name y py, .Name z pz] kt pt] (.Tuple [a, b, c] k2 pt2) pos.line X.env = pure false := by rfl) :
    QS X [i, j, l] (.Assign [.Tuple [.Name x px, .Name y py, .Name z pz] kt pt] (.Tuple [a, b, c] k2 pt2) pos) (sPar3 i j l m) := by
  refine PS.imp (ps_par3 hc hN hi hj hl hij hil hjl hx hy hz ha hw hs) fun E σ H h => ?_
  obtain ⟨R, G, ρ, f, ρ', rp, e, k⟩ := h
  unfold sPar3 at e
  rw [Option.bind_eq_some_iff] at e
  obtain ⟨⟨ss, ρ1⟩, h1, e⟩ := e
  refine ⟨R, G, ρ, ss, ρ1, rp, h1, fun G1 H1 vs s1 l1 r1 => ?_⟩
  match ss, vs, l1, e with
  | [s, t, q], [v, w, u], _, e =>
    simp only at e
    split at e
    · rename_i hb
      cases e
      simp only [Bool.and_eq_true, decide_eq_true_eq] at hb
      obtain ⟨⟨⟨⟨n1, n2⟩, n3⟩, hjl'⟩, hll'⟩ := hb
      have hl := r1.len
      have hlen : ρ1.length = σ.length := by simp at hl; exact hl
      refine ⟨v, w, u, rfl, k G1 H1 _ s1 ?_ (fun y hy => by rw [List.getElem?_set_ne fun z => hy (by simp [z]), List.getElem?_set_ne fun z => hy (by simp [z]), List.getElem?_set_ne fun z => hy (by simp [z])])⟩
      have r2 : Rep X.K R G1 H1 (((ρ1 ++ [s]) ++ [t]) ++ [q]) (((σ ++ [some v]) ++ [some w]) ++ [some u]) := by simpa using r1
      have r3 := Rep.move (by simp [hlen]) (noScr_ne n3) r2 l
      rw [List.set_append_left _ _ (by simp; omega), List.set_append_left _ _ hll', List.set_append_left _ _ (by simp; omega), List.set_append_left _ _ (by omega)] at r3
      have r4 := Rep.move (by simp [hlen]) (noScr_ne n2) r3 j
      rw [List.set_append_left _ _ (by simp; omega), List.set_append_left _ _ (by simp; omega)] at r4
      have r5 := Rep.move (by simp [hlen]) (noScr_ne n1) r4 i
      have c1 : ((ρ1.set i s).set j t).set l q = ((ρ1.set l q).set j t).set i s := by
        rw [List.set_comm _ _ hij, List.set_comm _ _ hil, List.set_comm _ _ hjl]
      have c2 : ((σ.set i (some v)).set j (some w)).set l (some u) = ((σ.set l (some u)).set j (some w)).set i (some v) := by
        rw [List.set_comm _ _ hij, List.set_comm _ _ hil, List.set_comm _ _ hjl]
      rw [c1, c2]
      exact r5
    · cases e
  | [], _, _, e => cases e
  | [_], _, _, e => cases e
  | [_, _], _, _, e => cases e
  | _ :: _ :: _ :: _ :: _, _, _, e => cases e
/-! ### (a, b, ..) = a list -/
def gLst (fs : List (D → Ro → Option Ro)) : D → Ro → Option Ro := fun d ρ => match d with
  | .list ds => gTupF fs ds ρ
  | _ => none
theorem gTupF_len : ∀ (fs : List (D → Ro → Option Ro)) (ds : List D) (ρ ρ' : Ro), gTupF fs ds ρ = some ρ' → ds.length = fs.length
  | [], [], _, _, _ => rfl
  | [], _ :: _, _, _, h => nomatch h
  | _ :: _, [], _, _, h => nomatch h
  | f :: fs, d :: ds, ρ, ρ', h => by
    unfold gTupF at h
    rw [Option.bind_eq_some_iff] at h
    obtain ⟨ρ1, _, h⟩ := h
    rw [List.length_cons, List.length_cons, gTupF_len fs ds ρ1 ρ' h]
theorem qg_unl {es : List Expr} {vs : List Nat} {fs : List (D → Ro → Option Ro)} {k : Nat} (h : QGs X vs es fs) (hc : X.calm = true := by rfl)
    (hn : (assignEach es X.env).length = fs.length := by rfl) (hst : (assignEach es X.env).findIdx? (·.1) = none := by rfl) : QG X vs (.Tuple es k pos) (gLst fs) := by
  refine PG.imp (pg_unl hc h hn hst) fun v σ H Q w => ?_
  obtain ⟨R, G, ρ, d, ρ', rp, dd, e, k⟩ := w
  cases dd with
  | lst hs ha =>
    rename_i a xs ds
    have e' : gTupF fs ds ρ = some ρ' := e
    exact ⟨a, xs, rfl, SqL.of (rp.subG _ _ hs), ha.length.trans (gTupF_len fs ds ρ ρ' e'), R, G, ρ, ds, ρ', rp, ha, e', k⟩
  | non => cases e
  | bl b => cases e
  | int i => cases e
  | str x => cases e
  | tup hs ha => cases e
  | dic hs ha => cases e
/-! ### index of a whole number in a list of whole numbers -/
theorem intsOf_map : ∀ (ds : List D) (xs : List Int), intsOf ds = some xs → ds = xs.map PyData.int
  | [], xs, h => by cases h; rfl
  | d :: ds, xs, h => by
    cases d with
    | int i =>
      unfold intsOf at h
      rw [Option.map_eq_some_iff] at h
      obtain ⟨ys, h1, h2⟩ := h
      subst h2
      rw [intsOf_map ds ys h1]
      rfl
    | _ => cases h
def dIndex : D → D → Option D
  | .list ds, .int k => (intsOf ds).bind fun xs => if k ∈ xs then some (.int (xs.idxOf k : Nat)) else none
  | _, _ => none
theorem dqInts {K : Fr} {G : Hp} : ∀ {vs : List V} {xs : List Int}, DqAll K G vs (xs.map PyData.int) → vs = xs.map V.int
  | [], [], _ => rfl
  | v :: vs, x :: xs, h => by
    cases h with
    | cons a b =>
      cases a
      rw [dqInts b]
      rfl
theorem before_idx (k : Int) : ∀ (xs : List Int) (m : Nat) (z : Int), m < xs.idxOf k → xs[m]? = some z → z ≠ k
  | [], m, z, h, _ => by simp at h
  | x :: xs, m, z, h, e => by
    by_cases q : x = k
    · subst q; simp at h
    · have hq : (x == k) = false := by simp [q]
      rw [List.idxOf_cons, hq] at h
      simp only [cond_false] at h
      cases m with
      | zero => simp at e; rw [← e]; exact q
      | succ m => exact before_idx k xs m z (by omega) (by simpa using e)
theorem eqV_int (a b : Int) : eqV (V.int a) (V.int b) = decide (a = b) := by
  by_cases q : a = b
  · subst q; simp [eqV]
  · simp [eqV, q]
theorem flat_ints : ∀ xs : List Int, (xs.map V.int).all flatV = true
  | [] => rfl
  | x :: xs => by rw [List.map_cons, List.all_cons, flat_ints xs]; rfl
theorem qe_index {o a : Expr} {m n : M D} {apos cpos : Pos} (ho : QE X o m) (ha : QE X a n)
    (hbase : attributeBase o "index" X.env (eval o X.env) = eval o X.env := by rfl)
    (hfew : ((backTo cpos (starEach [a] X.env)).all (fun x => !x.1) && (backToKw cpos (keywordEach [] X.env)).all (fun x => x.1.isSome)
      && decide ([a].length + ([] : List Keyword).length + (if ([] : List Keyword).isEmpty then 0 else 1) < 30)) = true := by rfl)
    (hline : (apos.endLine == cpos.line) = true := by rfl) (hs : starEach [a] X.env = (false, eval a X.env) :: starEach [] X.env := by rfl) (hplain : (backTo cpos (starEach [] X.env)).any (·.1) = false := by rfl) :
    QE X (.Call (.Attribute o "index" apos) [a] [] cpos) (eOp2 dIndex m n) := by
  refine PE.imp (pe_bm PySem.F.plainAttrs_list PySem.F.slot_list_index PySem.F.type_list_index mt_index ho (pa_cons ha pa_nil hs) hbase hfew hline hs hplain) fun σ H Q w => ?_
  obtain ⟨R, G, ρ, d, ρ', rp, e, k⟩ := w
  obtain ⟨x, ρ1, y, h1, h2, h3⟩ := bind2 e
  refine ⟨R, G, ρ, x, ρ1, rp, h1, fun G1 H1 v1 s1 r1 d1 => ?_⟩
  cases d1 with
  | lst hq dv =>
    rename_i q vs ds
    refine ⟨.inl ⟨rfl, vs, SqL.of (r1.subG _ _ hq)⟩, R, G1, ρ1, y, ρ', r1, h2, fun G2 H2 v2 s2 r2 d2 => ?_⟩
    cases d2 with
    | int i =>
      unfold dIndex at h3
      simp only at h3
      rw [Option.bind_eq_some_iff] at h3
      obtain ⟨xs, hx, h3⟩ := h3
      split at h3
      · rename_i hm
        cases h3
        have e1 := intsOf_map ds xs hx
        subst e1
        have e2 := dqInts dv
        subst e2
        have hlt := List.idxOf_lt_length_of_mem hm
        refine ⟨q, xs.map V.int, .int i, xs.idxOf i, .int i, rfl, rfl, SqL.of (r2.subG _ _ (s2 _ _ hq)), rfl, flat_ints xs, ?_, by rw [eqV_int]; simp, fun l z hl hz => ?_, k G2 H2 _ (s1.trans s2) r2 (.int _)⟩
        · rw [List.getElem?_map, List.getElem?_eq_getElem hlt, List.getElem_idxOf hlt]
          rfl
        · rw [List.getElem?_map] at hz
          cases hz2 : xs[l]? with
          | none => rw [hz2] at hz; cases hz
          | some z' =>
            rw [hz2] at hz
            cases hz
            rw [eqV_int, decide_eq_false (before_idx i xs l z' hl hz2)]
      · cases h3
    | _ => cases h3
  | _ => cases y <;> cases h3
end
end QL
set_option Elab.async false
set_option linter.all false
set_option maxRecDepth 100000
set_option maxHeartbeats 1000000
namespace QL
open PySem PySem.Spec PyProof.Rows L2 RZ
/-! ### enumerate of a tuple -/
theorem drw_tup {pr : Program} {wd : World} {Ar : Around} (hh : Ar.handled = none) (j t : Addr) (hjt : t ≠ j) (vs : Array Value) :
    Draws pr wd Ar j [j, t] vs.size (fun k y => vs[k]? = some y) (fun k hp => hp.IsTupleIter j t k ∧ hp.IsTuple t vs) := by
  refine ⟨fun k hp st => ?_, fun k hp hp' st keep => ?_, fun k s Q E hk st hQ => ?_, fun s Q E st hE => ?_⟩
  · obtain ⟨⟨o, ho, _⟩, _⟩ := st
    exact ⟨o, ho⟩
  · obtain ⟨o, ho, hc, n, hd⟩ := st.2
    exact ⟨st.1.at fun o e => keep j (by simp) o e, o, keep t (by simp) o ho, hc, n, hd⟩
  · refine nextOf_tuple_item st.1 st.2 (x := vs[k]) (by simp [hk]) fun hp' it' sb => hQ _ hp' s.toks (by simp [hk]) ⟨it', ?_⟩ sb
    obtain ⟨o, ho, hc, n, hd⟩ := st.2
    exact ⟨o, (sb.2 t hjt).trans ho, hc, n, hd⟩
  · exact nextOf_tuple_end hh st.1 st.2 (by simp) hE
theorem meets_enumT (t : Addr) (vs : Array Value) (k : Nat) (dct : Option Addr) (sl : Array (Option Value)) :
    Meets (Builtin.«enumerate.__new__» ⟨[.type "enumerate", .ref t], []⟩) (fun _ R sh => sh.heap.get? t = some { cls := .type "tuple", dict := dct, data := .seq vs k, slots := sl } ∧
      R (.ok (.ret (.ref (sh.heap.push { cls := .type "tuple_iterator", data := .fields #[.ref t, .int 0 0] }).objs.size)))
        { sh with heap := (sh.heap.push { cls := .type "tuple_iterator", data := .fields #[.ref t, .int 0 0] }).push { cls := .type "enumerate", data := .fields #[.none, .bool false, .ref sh.heap.objs.size, rawInt 0, .none, .none] } }) :=
  .of_wp fun pr wd Ar R sh hyp => by
    obtain ⟨hpp, g, d, tk, os⟩ := sh
    obtain ⟨hl, hyp⟩ := hyp
    have hsub := sub_enumerate
    have hL : Heap.IsTuple (Shared.heap ⟨hpp, g, d, tk, os⟩) t vs := ⟨_, hl, rfl, k, rfl⟩
    wp_walk using AutoSeq1.wpAny_loadPart' hl
    refine wpAny_stack_any fun stk => wpAny_pure ?_
    split
    · rename_i cl _ _ _ _ _
      cases (cl == Value.type "enumerate")
      · wp_walk using AutoSeq1.wpAny_loadPart' hl, wpAny_pyIter_tuple hL
        exact ⟨_, rfl, hyp⟩
      · wp_walk using AutoSeq1.wpAny_loadPart' hl, wpAny_pyIter_tuple hL
        exact ⟨_, rfl, hyp⟩
    · wp_walk using AutoSeq1.wpAny_loadPart' hl, wpAny_pyIter_tuple hL
      exact ⟨_, rfl, hyp⟩
theorem call_enumT {pr : Program} {wd : World} {Ar : Around} {E : Value → Shared → Prop} {sh : Shared} {t : Addr} {vs : Array Value} {Q : Value → Shared → Prop} (hL : sh.heap.IsTuple t vs)
    (hyp : ∀ hp, IsEnum hp (sh.heap.objs.size + 1) sh.heap.objs.size 0 .none → hp.IsTupleIter sh.heap.objs.size t 0 → hp.objs.size = sh.heap.objs.size + 2 →
      (∀ b o, sh.heap.get? b = some o → hp.get? b = some o) → Q (.ref (sh.heap.objs.size + 1)) { sh with heap := hp }) :
    wpAny (model pr wd) Ar (call (.type "enumerate") [.ref t]) Q E sh := by
  obtain ⟨⟨cc, dct, dt, sl⟩, hl, hc, k, hd⟩ := hL
  replace hc : cc = .type "tuple" := hc
  replace hd : dt = .seq vs k := hd
  subst hc hd
  refine callType_new F.called_enumerate (by decide) (F.typeCall_enumerate_1 _) (F.newCall_enumerate_1 _) (fun ob => F.args_object_init_2 ob _) F.entry_enumerate_new (meets_enumT t vs k dct sl) ⟨hl, ?_⟩
  have hz : (sh.heap.push { cls := .type "tuple_iterator", data := .fields #[.ref t, .int 0 0] }).objs.size = sh.heap.objs.size + 1 := Heap.size_push ..
  show _ ∧ _
  rw [hz]
  have he : IsEnum ((sh.heap.push { cls := .type "tuple_iterator", data := .fields #[.ref t, .int 0 0] }).push { cls := .type "enumerate", data := .fields #[.none, .bool false, .ref sh.heap.objs.size, rawInt 0, .none, .none] }) (sh.heap.objs.size + 1) sh.heap.objs.size 0 .none := by
    have z := Heap.get?_push_size (sh.heap.push { cls := .type "tuple_iterator", data := .fields #[.ref t, .int 0 0] }) (o := { cls := .type "enumerate", data := .fields #[.none, .bool false, .ref sh.heap.objs.size, rawInt 0, .none, .none] }) rfl
    rw [hz] at z
    exact z
  exact ⟨⟨_, he, rfl⟩, hyp _ he ⟨_, Heap.get?_push_of_some _ (Heap.get?_push_size _ rfl), rfl, rfl⟩ (by rw [Heap.size_push, hz]) fun b o x => Heap.get?_push_of_some _ (Heap.get?_push_of_some _ x)⟩
/-- the tuple at a, each item in a new pair -/
def IteT (K : PySem.W.Frag) (a : Addr) : It :=
  ⟨fun i H => ∃ (xs : List V) (x : V), SqT K H a xs ∧ xs[i]? = some x, fun i H v H' => ∃ T x, v = .ref T ∧ H T = none ∧ H' = upd H T (.tup [.int (i : Nat), x]) ∧ ∀ xs, SqT K H a xs → xs[i]? = some x, fun i H => ∃ xs : List V, SqT K H a xs ∧ xs.length ≤ i⟩
theorem tup_apart {hp : Heap} {a e it : Addr} {vs : Array Value} {k : Int} {m : Nat} {old : Value} (ht : hp.IsTuple a vs) (he : IsEnum hp e it k old) (hi : hp.IsTupleIter it a m) : e ≠ a ∧ a ≠ it := by
  obtain ⟨o, h1, h2, _⟩ := ht
  refine ⟨fun z => ?_, fun z => ?_⟩
  · subst z
    rw [show hp.get? e = some _ from he] at h1
    cases h1
    have h5 : Value.type "enumerate" = Value.type "tuple" := h2
    exact absurd h5 (by decide)
  · obtain ⟨o', h3, h4, _⟩ := hi
    subst z
    rw [h1] at h3
    cases h3
    rw [h2] at h4
    exact absurd h4 (by decide)
theorem next_enumT_end {pr : Program} {wd : World} {Ar : Around} {E : Value → Shared → Prop} {sh : Shared} {en it a : Addr} {m : Nat} {vs : Array Value} {k : Int} {old : Value} {Q : Option Value → Shared → Prop} (hh : Ar.handled = none)
    (hen : IsEnum sh.heap en it k old) (hi : sh.heap.IsTupleIter it a m) (ht : sh.heap.IsTuple a vs) (hx : vs[m]? = none)
    (hQ : ∀ hp, Heap.ExtBut it sh.heap hp → Q none { sh with heap := hp }) : wpAny (model pr wd) Ar (pyNext (.ref en)) Q E sh := by
  have hTy : sh.TypeIs (.ref en) "enumerate" := ⟨_, hen, rfl⟩
  unfold pyNext
  refine wpAny_bind (wpAny_attempt (wpAny_callSpecial?_slot (name := Str.ofString "__next__") hTy F.slot_enumerate_next (wpAny_call_entry F.slot_enumerate_next hTy F.entry_enumerate_next ?_ (F.args_enumerate_next_1 _))))
  show wpAny _ _ (field (.ref en) 2 >>= _) _ _ _
  refine wpAny_bind (wpAny_field hen rfl (x := .ref it) rfl ?_)
  refine wpAny_bind (nextOf_tuple_end (show Ar.in1.handled = none from hh) hi ht hx fun hp y hE hy => ?_)
  obtain ⟨ob, hob, hcl⟩ := hy
  refine wpAny_bind (wpAny_isInstance (T := "StopIteration") (b := true) ⟨ob, hob, hcl⟩ isSubtype_stop ?_)
  exact wpAny_pure (hQ _ hE)
theorem turn_enumT {pr : Program} {wd : World} {K : PySem.W.Frag} {elts : List Expr} {kk : Nat} {tpos : Pos} (a e it : Addr) :
    Turn pr wd K (.Tuple elts kk tpos) (IteT K a) [e, it] e (fun i hp => (∃ old, IsEnum hp e it ((i : Nat) : Int) old) ∧ hp.IsTupleIter it a i ∧ e ≠ it) where
  mem := by simp
  obj := fun i hp st b hb => by
    obtain ⟨⟨old, he⟩, ⟨ob, hob, hcl, hda⟩, _⟩ := st
    have eb : b = e ∨ b = it := by simpa using hb
    rcases eb with rfl | rfl
    · exact ⟨_, he, fun v q => nomatch q⟩
    · exact ⟨ob, hob, fun v q => by rw [hda] at q; cases q⟩
  keep := fun i hp hp' st kp => by
    obtain ⟨⟨old, he⟩, hi, hn⟩ := st
    exact ⟨⟨old, kp e (by simp) _ he⟩, hi.at fun ob q => kp it (by simp) ob q, hn⟩
  item := by
    intro X hP hw hK hc i pins sh σ H E I hf st hg
    subst hP hw hK
    obtain ⟨⟨old, he⟩, hi, hn⟩ := st
    obtain ⟨xs, x, hq, hx⟩ := hg
    obtain ⟨its, rv, pt, _⟩ := I.tuple hq
    obtain ⟨uu, hu, ru⟩ := rv.get hx
    have ht : sh.heap.IsTuple a its.toArray := by
      obtain ⟨ob, q1, q2, q3, q4⟩ := pt
      exact ⟨ob, q1, q2, q3, q4⟩
    obtain ⟨hea, hai⟩ := tup_apart ht he hi
    have hel : e < sh.heap.objs.size := Heap.lt_size he
    have hil : it < sh.heap.objs.size := by
      obtain ⟨_, q, _⟩ := id hi
      exact Heap.lt_size q
    have hlt : i < its.toArray.size := by
      have := (List.getElem?_eq_some_iff.mp hu).1
      simpa using this
    refine wpAny_pyNext_enum_itemD (drw_tup (Ar := X.A.in1) (show X.A.in1.handled = none from I.ok.hd hc) it a hai its.toArray) he ⟨hi, ht⟩ hlt hn (by simp [hn, hea]) fun y hp tk hy ho hst hT hsz kp => ?_
    have hyu : y = uu := by
      have : its.toArray[i]? = some uu := by simpa using hu
      rw [this] at hy
      exact (Option.some.inj hy).symm
    subst hyu
    refine ⟨_, rfl, wpAny_letOwnedTupleGo_enum (s := { sh with heap := hp, toks := tk + 1 }) ho fun hp2 he2 sb => ?_⟩
    have hT2 : hp2.get? sh.heap.objs.size = some { cls := .type "tuple", data := .seq #[.int i tk, y] } := (sb.2 _ (Nat.ne_of_gt hel)).trans hT
    have nw : ObjOk X.prog X.w (upd H sh.heap.objs.size (.tup [.int (i : Nat), x])) hp2 sh.heap.objs.size (.tup [.int (i : Nat), x]) :=
      ⟨by show 2 ≤ sizeLine; decide, [.int i tk, y], .cons ⟨_, rfl⟩ (.cons ru .nil), ⟨_, hT2, rfl, _, rfl⟩⟩
    have I1 : Inv X pins σ (upd H sh.heap.objs.size (.tup [.int (i : Nat), x])) { sh with heap := hp2, toks := tk + 1 } :=
      I.turnedNew (ch := [e, it]) (fun b ob hb q => (sb.2 b (fun z => hb (by simp [z]))).trans (kp b ob (fun z => hb (by simp [z])) (fun z => hb (by simp [z])) q)) hf (Nat.le_refl _) nw
    refine ⟨.ref sh.heap.objs.size, _, I1, rfl, ⟨_, x, rfl, I.hok.fresh (Nat.le_refl _), rfl, fun ys hy => by rw [I.tuple_inj hy hq]; exact hx⟩, ⟨⟨y, ?_⟩, hst.1.at fun ob q => (sb.2 it (Ne.symm hn)).trans q, hn⟩, fun b hb => ?_⟩
    · rw [show ((i + 1 : Nat) : Int) = (i : Int) + 1 by omega]
      exact he2
    · have hbl : b < sh.heap.objs.size := by
        have eb : b = e ∨ b = it := by simpa using hb
        rcases eb with rfl | rfl
        · exact hel
        · exact hil
      rw [upd_ne (Nat.ne_of_lt hbl)]
      exact (hf b hb).1
  done := by
    intro X hP hw hK hc i pins sh σ H E I hf st hg
    subst hP hw hK
    obtain ⟨⟨old, he⟩, hi, hn⟩ := st
    obtain ⟨xs, hq, hx⟩ := hg
    obtain ⟨its, rv, pt, _⟩ := I.tuple hq
    obtain ⟨g0, g1, g2, g3, g4, g5⟩ := hf it (by simp)
    have ht : sh.heap.IsTuple a its.toArray := by
      obtain ⟨ob, q1, q2, q3, q4⟩ := pt
      exact ⟨ob, q1, q2, q3, q4⟩
    have hll := rv.length
    exact next_enumT_end (I.ok.hd hc) he hi ht (by simp; omega) fun hp eb => ⟨rfl, I.turned (t' := sh.toks) (fun b ob hb q => eb b ob hb q) g0 g1 g3 g4 g5⟩
  self := fun A i sh Q E st hyp => by
    obtain ⟨⟨_, he⟩, _⟩ := st
    exact wpAny_pyIter_enum he hyp
def iEnumT (K : PySem.W.Frag) (ta : TA) : TI := fun σ H R => ta σ H fun vs H1 => ∃ a xs, vs = [.ref a] ∧ SqT K H1 a xs ∧ R (IteT K a) H1
theorem pi_enumT {X : Cx} {e : Expr} {ta : TA} {p pos tpos : Pos} {elts : List Expr} {kk : Nat} (hg : Gl X "enumerate") (hm : X.mg "enumerate" = none) (ha : PA X [e] ta) (hs : starEach [e] X.env = [(false, eval e X.env)] := by rfl) :
    PI X (.Tuple elts kk tpos) (.Call (.Name "enumerate" p) [e] [] pos) (iEnumT X.K ta) := by
  refine ⟨fun pins sh σ H R I hyp => ?_⟩
  refine Call_ (ld_blt I hg hm boot_enumerate (PyProof.Rows.callWith_type1 (thn (ha.run pos pins sh σ H _ I hyp) fun us s1 ⟨vs, H1, I1, r1, q1⟩ => ?_) hs rfl))
  obtain ⟨a, xs, ex, hq, qq⟩ := q1
  subst ex
  cases r1 with
  | cons rr rs =>
    cases rs
    cases rr
    obtain ⟨its, rv, pt, _⟩ := I1.tuple hq
    have ht : s1.heap.IsTuple a its.toArray := by
      obtain ⟨ob, q1, q2, q3, q4⟩ := pt
      exact ⟨ob, q1, q2, q3, q4⟩
    refine call_enumT ht fun hp he hi hsz kp => wpAny_pyIter_enum he ?_
    have I2 : Inv X pins σ H1 { s1 with heap := hp } := I1.kept (t' := s1.toks) kp
    refine ⟨s1.heap.objs.size + 1, [s1.heap.objs.size + 1, s1.heap.objs.size], _, _, H1, rfl, I2, turn_enumT a (s1.heap.objs.size + 1) s1.heap.objs.size, ⟨⟨.none, he⟩, hi, Nat.succ_ne_self _⟩, fun b hb => ?_, qq⟩
    have hle : s1.heap.objs.size ≤ b := by
      have eb : b = s1.heap.objs.size + 1 ∨ b = s1.heap.objs.size := by simpa using hb
      rcases eb with zz | zz
      · subst zz; exact Nat.le_succ _
      · subst zz; exact Nat.le_refl _
    exact I1.fpOk hle (I1.hok.fresh hle)
def enumA : List D → Option (List D)
  | [.list ds] => some (enumL ds)
  | [.tuple ds] => some (enumL ds)
  | _ => none
theorem walk_enumT {K : Fr} {G : Hp} {a : Addr} {ds : List D} (ha : Dq K G (.ref a) (.tuple ds)) : WalkD K (IteT K a) G (enumL ds) := by
  cases ha with
  | tup hs a1 =>
    rename_i us
    have l1 := a1.length
    have sq1 : ∀ G' H, Same G G' → Same G' H → SqT K H a us := fun G' H s1 s2 => SqT_mono (s1.trans s2) hs
    refine ⟨fun i G' H s1 s2 hi => ?_, fun i G' H s1 s2 hi => ?_, fun i G' H v H' d s1 s2 hd hy => ?_⟩
    · rw [enumL_length] at hi
      exact ⟨us, us[i]'(by omega), sq1 G' H s1 s2, by simp⟩
    · rw [enumL_length] at hi
      exact ⟨us, sq1 G' H s1 s2, by omega⟩
    · obtain ⟨T, x, rfl, hT, rfl, f1⟩ := hy
      obtain ⟨dx, e1, rfl⟩ := enumL_get hd
      refine ⟨_, Gr.new s2 hT, .tup (SqT.of upd_same) ?_⟩
      have gg := (Gr.new (o := .tup [.int (i : Nat), x]) s2 hT).gg
      exact .cons (.int _) (.cons (Dq_mono (s1.trans gg) (a1.idx e1 (f1 us (sq1 G' H s1 s2)))) .nil)
theorem qi_enumA {X : Cx} {e : Expr} {p pos : Pos} {m : M (List D)} {elts : List Expr} {kk : Nat} {tpos : Pos} (hm : X.mg "enumerate" = none) (ha : QA X [e] m) (hg : Gl X "enumerate" := by rfl) (hs : starEach [e] X.env = [(false, eval e X.env)] := by rfl) :
    QI X (.Tuple elts kk tpos) (.Call (.Name "enumerate" p) [e] [] pos) (iApp enumA m) := by
  refine PI.imp (PI.or (pi_enum hg hm ha hs) (pi_enumT hg hm ha hs)) fun σ H Q h => ?_
  obtain ⟨R, G, ρ, ds, ρ', rp, e, k⟩ := h
  obtain ⟨xs, h1, h2⟩ := iApp_some e
  unfold enumA at h2
  split at h2
  · cases h2
    refine .inl ⟨R, G, ρ, _, _, rp, h1, fun G1 H1 v1 s1 r1 d1 => ?_⟩
    cases d1 with
    | cons da dr =>
      cases dr
      cases id da with
      | lst ha1 _ => exact ⟨_, _, rfl, SqL.of (r1.subG _ _ ha1), k G1 H1 _ s1 r1 (walk_enum da)⟩
  · cases h2
    refine .inr ⟨R, G, ρ, _, _, rp, h1, fun G1 H1 v1 s1 r1 d1 => ?_⟩
    cases d1 with
    | cons da dr =>
      cases dr
      cases id da with
      | tup ha1 _ => exact ⟨_, _, rfl, SqT_mono r1.subG ha1, k G1 H1 _ s1 r1 (walk_enumT da)⟩
  · cases h2
/-! ### an empty tuple ahead or behind -/
theorem cat_none {pr : Program} {wd : World} {Ar : Around} {E : Value → Shared → Prop} {sh : Shared} {t b : Addr} {ws : List Value} {Q : Value → Shared → Prop} (ht : IsTup sh.heap t ([] : List Value).toArray) (hb : IsTup sh.heap b ws.toArray) (hyp : Q (.ref b) sh) :
    wpAny (model pr wd) Ar (binaryOp .Add (.ref t) (.ref b)) Q E sh := by
  obtain ⟨⟨c1, d1, da1, sl1⟩, ho1, hc1, n1, hd1⟩ := id ht
  obtain ⟨⟨c2, d2, da2, sl2⟩, ho2, hc2, n2, hd2⟩ := id hb
  simp only at hc1 hd1 hc2 hd2
  subst hc1 hd1 hc2 hd2
  exact concat_meets ⟨_, ho1, rfl⟩ ⟨_, ho2, rfl⟩ noFill_tuple_add seq_tuple_add PySem.F.slot_tuple_add PySem.F.entry_tuple_add (PySem.F.args_tuple_add_2 _ _) (tuple_addW0 t b _ ws.toArray n1 n2 d1 d2 sl1 sl2 rfl) ⟨ho1, ho2, hyp⟩
def rCat0 (K : Fr) : R2 := fun x y H Q => ∃ a b ys, x = .ref a ∧ y = .ref b ∧ SqT K H a [] ∧ SqT K H b ys ∧ Q (.ref b) H
theorem op_cat0 {X : Cx} : OpR X (binaryOp .Add) (rCat0 X.K) := by
  intro pins sh σ H x y v u Q I rx ry hyp
  obtain ⟨a, b, ys, rfl, rfl, ha, hb, q⟩ := hyp
  cases rx
  cases ry
  obtain ⟨i1, r1, p1, _⟩ := I.tuple ha
  obtain ⟨i2, r2, p2, _⟩ := I.tuple hb
  cases r1
  exact cat_none p1 p2 ⟨.ref b, H, I, rfl, q⟩
def dAddT (x y : D) : Option D := match x, y with
  | .tuple [], .tuple b => some (.tuple b)
  | .tuple (a :: r), .tuple [] => if r.length + 1 ≤ 1000000 then some (.tuple (a :: r)) else none
  | _, _ => dAdd x y
abbrev rAddT (K : Fr) : R2 := fun x y H Q => rCat0 K x y H Q ∨ rAddA K x y H Q
theorem d_addT {K : Fr} : OpD K (rAddT K) dAddT := by
  intro G H x y dx dy d Q s hx hy e k
  unfold dAddT at e
  split at e
  · cases e
    cases hx with
    | tup h1 a1 =>
      cases a1
      cases hy with
      | tup h2 a2 => exact .inl ⟨_, _, _, rfl, rfl, SqT_mono s h1, SqT_mono s h2, k G H _ (Gr.refl s) (.tup h2 a2)⟩
  · split at e
    · rename_i hl
      cases e
      cases hx with
      | tup h1 a1 =>
        cases hy with
        | tup h2 a2 =>
          cases a2
          have l1 := a1.length
          refine .inr (.inr (.inr (.inl ⟨_, _, _, _, rfl, rfl, SqT_mono s h1, SqT_mono s h2, fun z => ?_, ?_, fun _ => k G H _ (Gr.refl s) (.tup h1 a1), fun z => absurd rfl z⟩)))
          · rw [z] at l1
            simp at l1
          · rw [l1]
            exact size_of (by simpa using hl)
    · cases e
  · exact .inr (d_add G H x y dx dy d Q s hx hy e k)
theorem qe_addT {X : Cx} {a b : Expr} {pos : Pos} {m n : M D} (ha : QE X a m) (hb : QE X b n) : QE X (.BinOp a .Add b pos) (eOp2 dAddT m n) := qe_op (op_cat0.or op_addA) d_addT ha hb
/-! ### range with a step -/
def rng3 : List D → Option (List D)
  | [.int i, .int j, .int c] => if c ≠ 0 ∧ c.natAbs < 1073741824 ∧ Builtin.Range.small i j c = true ∧ 0 ≤ Builtin.Range.rangeSize i j c then some ((List.range (Builtin.Range.rangeSize i j c).toNat).map fun (k : Nat) => .int (i + (k : Nat) * c)) else none
  | _ => none
theorem walk_range3 {K : Fr} {G : Hp} {lo c : Int} {n : Nat} : WalkD K (Itc lo c n) G ((List.range n).map fun (k : Nat) => .int (lo + (k : Nat) * c)) := by
  have hl : ((List.range n).map fun (k : Nat) => PyData.int (lo + (k : Nat) * c)).length = n := by simp
  refine ⟨fun i G' H s1 s2 hi => by rw [hl] at hi; exact hi, fun i G' H s1 s2 hi => by rw [hl] at hi; exact hi, fun i G' H v H' d s1 s2 hd hy => ?_⟩
  obtain ⟨rfl, rfl⟩ := hy
  refine ⟨G', Gr.refl s2, ?_⟩
  have hi : i < n := by
    have := (List.getElem?_eq_some_iff.mp hd).1
    rw [hl] at this
    exact this
  have e : d = .int (lo + (i : Nat) * c) := by
    simp [hi] at hd
    exact hd.symm
  subst e
  exact .int _
theorem qi_range3 {X : Cx} {tg a b c : Expr} {p pos : Pos} {m : M (List D)} (hm : X.mg "range" = none) (ha : QA X [a, b, c] m) (hg : Gl X "range" := by rfl)
    (hs : starEach [a, b, c] X.env = (false, eval a X.env) :: starEach [b, c] X.env := by rfl) (hpl : (backTo pos (starEach [b, c] X.env)).any (·.1) = false := by rfl) : QI X tg (.Call (.Name "range" p) [a, b, c] [] pos) (iApp rng3 m) := by
  refine PI.imp (pi_range3 hg hm ha hs hpl) fun σ H Q w => ?_
  obtain ⟨R, G, ρ, ds, ρ', rp, e, k⟩ := w
  obtain ⟨xs, h1, h2⟩ := iApp_some e
  refine ⟨R, G, ρ, _, _, rp, h1, fun G1 H1 v1 s1 r1 d1 => ?_⟩
  unfold rng3 at h2
  split at h2
  · split at h2
    · rename_i q
      cases h2
      cases d1 with
      | cons da dr =>
        cases da
        cases dr with
        | cons db dr =>
          cases db
          cases dr with
          | cons dc dr =>
            cases dc
            cases dr
            exact ⟨_, _, _, _, rfl, ⟨q.1, q.2.1, q.2.2.1, (Int.toNat_of_nonneg q.2.2.2).symm⟩, k G1 H1 _ s1 r1 walk_range3⟩
    · cases h2
  · cases h2
end QL
set_option Elab.async false
set_option linter.all false
set_option maxRecDepth 100000
set_option maxHeartbeats 1000000
namespace QL
open PySem PySem.Spec PyProof.Rows L2 RZ
/-! ### zip of two or three sequences of any kind: true a list, false a tuple -/
def SqK (K : Fr) (b : Bool) (H : Hp) (a : Addr) (xs : List V) : Prop := match b with
  | true => SqL K H a xs
  | false => SqT K H a xs
def HIt (b : Bool) (h : Heap) (it l : Addr) (i : Nat) : Prop := match b with
  | true => h.IsListIter it l i
  | false => h.IsTupleIter it l i
def HSq (b : Bool) (h : Heap) (l : Addr) (items : Array Value) : Prop := match b with
  | true => h.IsList l items
  | false => h.IsTuple l items
def itObj (b : Bool) (l : Addr) : Obj := match b with
  | true => { cls := .type "list_iterator", data := .fields #[.ref l, .int 0 0] }
  | false => { cls := .type "tuple_iterator", data := .fields #[.ref l, .int 0 0] }
theorem drwK {pr : Program} {wd : World} {Ar : Around} (hh : Ar.handled = none) (b : Bool) (j t : Addr) (hjt : t ≠ j) (vs : Array Value) :
    Draws pr wd Ar j [j, t] vs.size (fun k y => vs[k]? = some y) (fun k hp => HIt b hp j t k ∧ HSq b hp t vs) := by
  cases b
  · exact Draws.tuple hh j t hjt vs
  · exact Draws.list hh j t hjt vs
theorem begK (b : Bool) (l : Addr) (items : Array Value) : Begins (.ref l) (itObj b l) fun h => HSq b h l items := by
  cases b
  · exact begins_tuple l items
  · exact begins_list l items
theorem HIt.at {b : Bool} {h h' : Heap} {it l : Addr} {i : Nat} (x : HIt b h it l i) (k : ∀ o, h.get? it = some o → h'.get? it = some o) : HIt b h' it l i := by
  cases b
  · exact Heap.IsTupleIter.at x k
  · exact Heap.IsListIter.at x k
theorem HIt.obj {b : Bool} {h : Heap} {it l : Addr} {i : Nat} (x : HIt b h it l i) : ∃ o, h.get? it = some o ∧ ∀ v, o.data ≠ .cell v := by
  cases b
  · obtain ⟨o, e, _, d⟩ := x
    exact ⟨o, e, fun v q => by rw [d] at q; cases q⟩
  · obtain ⟨o, e, _, d⟩ := x
    exact ⟨o, e, fun v q => by rw [d] at q; cases q⟩
theorem HIt.new {b : Bool} {h : Heap} {it l : Addr} (x : h.get? it = some (itObj b l)) : HIt b h it l 0 := by
  cases b
  · exact ⟨_, x, rfl, rfl⟩
  · exact ⟨_, x, rfl, rfl⟩
theorem inv_seq {X : Cx} {pins : List (Addr × Obj)} {σ : L2.St} {H : Hp} {s : Shared} {b : Bool} {a : Addr} {xs : List V} (I : Inv X pins σ H s) (h : SqK X.K b H a xs) : ∃ its : List Value, Vals xs its ∧ HSq b s.heap a its.toArray ∧ a < s.heap.objs.size := by
  cases b
  · obtain ⟨its, rv, p, _⟩ := I.tuple h
    obtain ⟨o1, ho1, _⟩ := id p
    exact ⟨its, rv, p, Heap.lt_size ho1⟩
  · obtain ⟨its, rv, p, _⟩ := I.list h
    exact ⟨its, rv, p.isList, p.lt⟩
/-! two -/
def Itz2 (K : Fr) (b1 b2 : Bool) (a1 a2 : Addr) (xs ys : List V) : It :=
  ⟨fun i H => SqK K b1 H a1 xs ∧ SqK K b2 H a2 ys ∧ i < xs.length ∧ i < ys.length,
    fun i H v H' => ∃ T x y, v = .ref T ∧ H T = none ∧ H' = upd H T (.tup [x, y]) ∧ xs[i]? = some x ∧ ys[i]? = some y,
    fun i H => SqK K b1 H a1 xs ∧ SqK K b2 H a2 ys ∧ (xs.length ≤ i ∨ ys.length ≤ i)⟩
theorem turn_zip2 {P : Program} {w : World} {K : Fr} {elts : List Expr} {kk : Nat} {tpos : Pos} {b1 b2 : Bool} {a1 a2 z TI TO i1 i2 : Addr} {xs ys : List V} (D : ZipSep2 z TI TO i1 i2 [i1, a1] [i2, a2]) (n1 : a1 ≠ i1) (n2 : a2 ≠ i2) :
    Turn P w K (.Tuple elts kk tpos) (Itz2 K b1 b2 a1 a2 xs ys) [z, TI, TO, i1, i2] z (fun i h => IsZip h z TI TO .none ∧ IsTupOf2 h TI (.ref i1) (.ref i2) ∧ (∃ x y, IsTupOf2 h TO x y) ∧ HIt b1 h i1 a1 i ∧ HIt b2 h i2 a2 i ∧ i ≤ xs.length ∧ i ≤ ys.length) where
  mem := by simp
  obj := fun i h st c hc => by
    obtain ⟨hz, hTI, ⟨x, y, hTO⟩, h1, h2, _⟩ := st
    have e' : c = z ∨ c = TI ∨ c = TO ∨ c = i1 ∨ c = i2 := by simpa using hc
    rcases e' with q | q | q | q | q
    · rw [q]; exact ⟨_, hz, fun v q => nomatch q⟩
    · rw [q]; exact ⟨_, hTI, fun v q => nomatch q⟩
    · rw [q]; exact ⟨_, hTO, fun v q => nomatch q⟩
    · rw [q]; exact h1.obj
    · rw [q]; exact h2.obj
  keep := fun i h h' st k => by
    obtain ⟨hz, hTI, ⟨x, y, hTO⟩, h1, h2, l⟩ := st
    exact ⟨k z (by simp) _ hz, k TI (by simp) _ hTI, ⟨x, y, k TO (by simp) _ hTO⟩, h1.at fun o q => k i1 (by simp) o q, h2.at fun o q => k i2 (by simp) o q, l⟩
  item := by
    intro X hP hw hK hc i pins s σ H E I hf st hg
    subst hP hw hK
    obtain ⟨hz, hTI, ⟨x0, y0, hTO⟩, h1, h2, l1, l2⟩ := st
    obtain ⟨hqx, hqy, hx, hy⟩ := hg
    obtain ⟨its, rv, p, _⟩ := inv_seq I hqx
    obtain ⟨its2, rv2, p2, _⟩ := inv_seq I hqy
    obtain ⟨u, hu, ru⟩ := rv.get (List.getElem?_eq_getElem hx)
    obtain ⟨u2, hu2, ru2⟩ := rv2.get (List.getElem?_eq_getElem hy)
    have ll1 := rv.length
    have ll2 := rv2.length
    have hzl : z < s.heap.objs.size := Heap.lt_size hz
    have hhd : X.A.in1.handled = none := I.ok.hd hc
    refine wpAny_pyNext_zipD2_item D (drwK hhd b1 i1 a1 n1 its.toArray) (drwK hhd b2 i2 a2 n2 its2.toArray) hz hTI hTO ⟨h1, p⟩ ⟨h2, p2⟩ (by simp; omega) (by simp; omega) fun y1 y2 h' tk e1 e2 z' TO' h1' h2' hT hsz hk => ?_
    have ey1 : y1 = u := by
      have : its.toArray[i]? = some u := by simpa using hu
      rw [this] at e1
      exact (Option.some.inj e1).symm
    have ey2 : y2 = u2 := by
      have : its2.toArray[i]? = some u2 := by simpa using hu2
      rw [this] at e2
      exact (Option.some.inj e2).symm
    subst ey1 ey2
    refine ⟨_, rfl, wpAny_letOwnedTupleGo_zip (s := { s with heap := h', toks := tk }) z' fun h'' z'' sb => ?_⟩
    have hT2 : h''.get? s.heap.objs.size = some { cls := .type "tuple", data := .seq #[y1, y2] } := (sb.2 _ (Nat.ne_of_gt hzl)).trans hT
    have new : ObjOk X.prog X.w (upd H s.heap.objs.size (.tup [xs[i], ys[i]])) h'' s.heap.objs.size (.tup [xs[i], ys[i]]) :=
      ⟨by show 2 ≤ sizeLine; decide, [y1, y2], .cons ru (.cons ru2 .nil), ⟨_, hT2, rfl, _, rfl⟩⟩
    have I1 : Inv X pins σ (upd H s.heap.objs.size (.tup [xs[i], ys[i]])) { s with heap := h'', toks := tk } :=
      I.turnedNew (t' := tk) (ch := [z, TI, TO, i1, i2]) (fun c o hb q => (sb.2 c (fun q' => hb (by simp [q']))).trans (hk c o (fun q' => hb (by simp [q'])) (fun q' => hb (by simp [q'])) (fun q' => hb (by simp [q'])) (fun q' => hb (by simp [q'])) q)) hf (Nat.le_refl _) new
    refine ⟨.ref s.heap.objs.size, _, I1, rfl, ⟨_, xs[i], ys[i], rfl, I.hok.fresh (Nat.le_refl _), rfl, List.getElem?_eq_getElem hx, List.getElem?_eq_getElem hy⟩, ⟨z'', ?_, ⟨y1, y2, ?_⟩, ?_, ?_, hx, hy⟩, fun c hcm => ?_⟩
    · exact (sb.2 _ D.TIz).trans (hk _ _ D.TIz D.TITO D.TIi1 D.TIi2 hTI)
    · exact (sb.2 _ D.TOz).trans TO'
    · exact h1'.1.at fun o q => (sb.2 _ D.zi1.symm).trans q
    · exact h2'.1.at fun o q => (sb.2 _ D.zi2.symm).trans q
    · have hlt : c < s.heap.objs.size := by
        have e' : c = z ∨ c = TI ∨ c = TO ∨ c = i1 ∨ c = i2 := by simpa using hcm
        rcases e' with q | q | q | q | q
        · rw [q]; exact hzl
        · rw [q]; exact Heap.lt_size hTI
        · rw [q]; exact Heap.lt_size hTO
        · rw [q]; obtain ⟨_, e1, _⟩ := h1.obj; exact Heap.lt_size e1
        · rw [q]; obtain ⟨_, e2, _⟩ := h2.obj; exact Heap.lt_size e2
      rw [upd_ne (Nat.ne_of_lt hlt)]
      exact (hf c hcm).1
  done := by
    intro X hP hw hK hc i pins s σ H E I hf st hg
    subst hP hw hK
    obtain ⟨hz, hTI, ⟨x0, y0, hTO⟩, h1, h2, l1, l2⟩ := st
    obtain ⟨hqx, hqy, hend⟩ := hg
    obtain ⟨its, rv, p, _⟩ := inv_seq I hqx
    obtain ⟨its2, rv2, p2, _⟩ := inv_seq I hqy
    have ll1 := rv.length
    have ll2 := rv2.length
    have hhd : X.A.in1.handled = none := I.ok.hd hc
    refine wpAny_pyNext_zipD2_end D (drwK hhd b1 i1 a1 n1 its.toArray) (drwK hhd b2 i2 a2 n2 its2.toArray) hz hTI hTO ⟨h1, p⟩ ⟨h2, p2⟩ (by simp; omega) (by simp; omega) (by simp; omega) fun h' tk hk => ⟨rfl, I.turnedL (t' := tk) (ch := [z, TI, TO, i1, i2]) (fun c o hb q =>
      hk c o (fun q' => hb (by simp [q'])) (fun q' => hb (by simp [q'])) (fun q' => hb (by simp [q'])) (fun q' => hb (by simp [q'])) q) hf⟩
  self := fun A i s Q E st h => wpAny_pyIter_zip st.1 h
theorem neN' {a b : Nat} (h : a < b ∨ b < a) : a ≠ b := by omega
theorem notIn2 {x a b : Nat} (h1 : x ≠ a) (h2 : x ≠ b) : x ∉ [a, b] := by
  intro h
  cases h with
  | head => exact h1 rfl
  | tail _ h =>
    cases h with
    | head => exact h2 rfl
    | tail _ h => cases h
theorem sep2 (n a b : Nat) (ha : a < n) (hb : b < n) : ZipSep2 (n + 4) (n + 2) (n + 3) n (n + 1) [n, a] [n + 1, b] := by
  constructor <;> first | exact List.mem_cons_self | (refine neN' ?_; omega) | (refine notIn2 (neN' ?_) (neN' ?_) <;> omega)
def iZip2 (K : Fr) (ta : TA) : TI := fun σ H R => ta σ H fun vs H1 => ∃ b1 b2 a b xs ys, vs = [.ref a, .ref b] ∧ SqK K b1 H1 a xs ∧ SqK K b2 H1 b ys ∧ R (Itz2 K b1 b2 a b xs ys) H1
theorem pi_zip2 {X : Cx} {e e2 : Expr} {ta : TA} {p pos tpos : Pos} {elts : List Expr} {kk : Nat} (hg : Gl X "zip") (hm : X.mg "zip" = none) (ha : PA X [e, e2] ta)
    (hs : starEach [e, e2] X.env = (false, eval e X.env) :: starEach [e2] X.env := by rfl) (hpl : (backTo pos (starEach [e2] X.env)).any (·.1) = false := by rfl) :
    PI X (.Tuple elts kk tpos) (.Call (.Name "zip" p) [e, e2] [] pos) (iZip2 X.K ta) := by
  refine ⟨fun pins s σ H R I h => ?_⟩
  refine Call_ (ld_blt I hg hm PyProof.Rows.boot_zip (PyProof.Rows.callWith_type1 (thn (ha.run pos pins s σ H _ I h) fun us s1 ⟨vs, H1, I1, r1, q1⟩ => ?_) hs hpl))
  obtain ⟨b1, b2, a, b, xs, ys, ex, hqx, hqy, q⟩ := q1
  subst ex
  cases r1 with
  | cons r rr =>
    cases rr with
    | cons r' rr =>
      cases rr
      cases r
      cases r'
      obtain ⟨its, rv, p1, lt1⟩ := inv_seq I1 hqx
      obtain ⟨its2, rv2, p2, lt2⟩ := inv_seq I1 hqy
      refine zip_begins2 (begK b1 a its.toArray) (begK b2 b its2.toArray) p1 p2 fun h' hz hTI hTO h1 h2 hsz hk => wpAny_pyIter_zip hz ?_
      have I2 : Inv X pins σ H1 { s1 with heap := h' } := I1.kept (t' := s1.toks) hk
      refine ⟨s1.heap.objs.size + 4, [s1.heap.objs.size + 4, s1.heap.objs.size + 2, s1.heap.objs.size + 3, s1.heap.objs.size, s1.heap.objs.size + 1], _, _, H1, rfl, I2, turn_zip2 (sep2 s1.heap.objs.size a b lt1 lt2) (Nat.ne_of_lt lt1) (Nat.ne_of_lt (Nat.lt_succ_of_lt lt2)), ⟨hz, hTI, ⟨_, _, hTO⟩, HIt.new h1, HIt.new h2, Nat.zero_le _, Nat.zero_le _⟩, fun c hcm => ?_, q⟩
      have e' : c = s1.heap.objs.size + 4 ∨ c = s1.heap.objs.size + 2 ∨ c = s1.heap.objs.size + 3 ∨ c = s1.heap.objs.size ∨ c = s1.heap.objs.size + 1 := by simpa using hcm
      have hle : s1.heap.objs.size ≤ c := by
        rcases e' with z | z | z | z | z
        · rw [z]; exact Nat.le_add_right _ _
        · rw [z]; exact Nat.le_add_right _ _
        · rw [z]; exact Nat.le_add_right _ _
        · rw [z]; exact Nat.le_refl _
        · rw [z]; exact Nat.le_add_right _ _
      exact I1.fpOk hle (I1.hok.fresh hle)
/-- a sequence of data -/
def seqB : D → Option (Bool × List D)
  | .list ds => some (true, ds)
  | .tuple ds => some (false, ds)
  | _ => none
theorem dq_seq {K : Fr} {G : Hp} {v : V} {d : D} {b : Bool} {ds : List D} (h : Dq K G v d) (e : seqB d = some (b, ds)) : ∃ a xs, v = .ref a ∧ (∀ H, Same G H → SqK K b H a xs) ∧ DqAll K G xs ds := by
  cases h with
  | lst ha hs => cases e; exact ⟨_, _, rfl, fun H s => SqL.of (s _ _ ha), hs⟩
  | tup ha hs => cases e; exact ⟨_, _, rfl, fun H s => SqT_mono s ha, hs⟩
  | _ => cases e
def zipM : List D → Option (List D)
  | [x, y] => (seqB x).bind fun p => (seqB y).map fun q => zipL p.2 q.2
  | _ => none
theorem walk_zip2 {K : Fr} {G : Hp} {a b : Addr} {b1 b2 : Bool} {vs ws : List V} {xs ys : List D} (ha : ∀ H, Same G H → SqK K b1 H a vs) (hb : ∀ H, Same G H → SqK K b2 H b ws) (da : DqAll K G vs xs) (db : DqAll K G ws ys) : WalkD K (Itz2 K b1 b2 a b vs ws) G (zipL xs ys) := by
  have l1 := da.length
  have l2 := db.length
  refine ⟨fun i G' H s1 s2 hi => ?_, fun i G' H s1 s2 hi => ?_, fun i G' H v H' d s1 s2 hd hy => ?_⟩
  · rw [zipL_length] at hi
    exact ⟨ha H (s1.trans s2), hb H (s1.trans s2), by omega, by omega⟩
  · rw [zipL_length] at hi
    exact ⟨ha H (s1.trans s2), hb H (s1.trans s2), by omega⟩
  · obtain ⟨T, x, y, rfl, hT, rfl, f1, f2⟩ := hy
    obtain ⟨dx, dy, e1, e2, rfl⟩ := zipL_get hd
    refine ⟨_, Gr.new s2 hT, .tup (SqT.of upd_same) ?_⟩
    have gg := (Gr.new (o := .tup [x, y]) s2 hT).gg
    exact .cons (Dq_mono (s1.trans gg) (da.idx e1 f1)) (.cons (Dq_mono (s1.trans gg) (db.idx e2 f2)) .nil)
theorem qi_zipM {X : Cx} {e e2 : Expr} {p pos tpos : Pos} {m : M (List D)} {elts : List Expr} {kk : Nat} (hm : X.mg "zip" = none) (ha : QA X [e, e2] m) (hg : Gl X "zip" := by rfl)
    (hs : starEach [e, e2] X.env = (false, eval e X.env) :: starEach [e2] X.env := by rfl) (hpl : (backTo pos (starEach [e2] X.env)).any (·.1) = false := by rfl) :
    QI X (.Tuple elts kk tpos) (.Call (.Name "zip" p) [e, e2] [] pos) (iApp zipM m) := by
  refine PI.imp (pi_zip2 hg hm ha hs hpl) fun σ H Q h => ?_
  obtain ⟨R, G, ρ, ds, ρ', rp, e, k⟩ := h
  obtain ⟨xs, h1, h2⟩ := iApp_some e
  refine ⟨R, G, ρ, _, _, rp, h1, fun G1 H1 v1 s1 r1 d1 => ?_⟩
  unfold zipM at h2
  split at h2
  · rw [Option.bind_eq_some_iff] at h2
    obtain ⟨⟨b1, xs1⟩, e1, h2⟩ := h2
    rw [Option.map_eq_some_iff] at h2
    obtain ⟨⟨b2, xs2⟩, e2, h2⟩ := h2
    cases h2
    cases d1 with
    | cons da dr =>
      cases dr with
      | cons db dr =>
        cases dr
        obtain ⟨a, vs, rfl, ha, hva⟩ := dq_seq da e1
        obtain ⟨b, ws, rfl, hb, hvb⟩ := dq_seq db e2
        exact ⟨b1, b2, a, b, vs, ws, rfl, ha H1 r1.subG, hb H1 r1.subG, k G1 H1 _ s1 r1 (walk_zip2 ha hb hva hvb)⟩
  · cases h2
end QL
set_option Elab.async false
set_option linter.all false
set_option maxRecDepth 100000
set_option maxHeartbeats 1000000
namespace QL
open PySem PySem.Spec PyProof.Rows L2 RZ
/-! three -/
def Itz3 (K : Fr) (b1 b2 b3 : Bool) (a1 a2 a3 : Addr) (xs ys zs : List V) : It :=
  ⟨fun i H => SqK K b1 H a1 xs ∧ SqK K b2 H a2 ys ∧ SqK K b3 H a3 zs ∧ i < xs.length ∧ i < ys.length ∧ i < zs.length,
    fun i H v H' => ∃ T x y w, v = .ref T ∧ H T = none ∧ H' = upd H T (.tup [x, y, w]) ∧ xs[i]? = some x ∧ ys[i]? = some y ∧ zs[i]? = some w,
    fun i H => SqK K b1 H a1 xs ∧ SqK K b2 H a2 ys ∧ SqK K b3 H a3 zs ∧ (xs.length ≤ i ∨ ys.length ≤ i ∨ zs.length ≤ i)⟩
theorem turn_zip3 {P : Program} {w : World} {K : Fr} {elts : List Expr} {kk : Nat} {tpos : Pos} {b1 b2 b3 : Bool} {a1 a2 a3 z TI TO i1 i2 i3 : Addr} {xs ys zs : List V} (D : ZipSep3 z TI TO i1 i2 i3 [i1, a1] [i2, a2] [i3, a3]) (n1 : a1 ≠ i1) (n2 : a2 ≠ i2) (n3 : a3 ≠ i3) :
    Turn P w K (.Tuple elts kk tpos) (Itz3 K b1 b2 b3 a1 a2 a3 xs ys zs) [z, TI, TO, i1, i2, i3] z (fun i h => IsZip h z TI TO .none ∧ IsTupOf3 h TI (.ref i1) (.ref i2) (.ref i3) ∧ (∃ x y w, IsTupOf3 h TO x y w) ∧ HIt b1 h i1 a1 i ∧ HIt b2 h i2 a2 i ∧ HIt b3 h i3 a3 i ∧ i ≤ xs.length ∧ i ≤ ys.length ∧ i ≤ zs.length) where
  mem := by simp
  obj := fun i h st c hc => by
    obtain ⟨hz, hTI, ⟨x, y, w, hTO⟩, h1, h2, h3, _⟩ := st
    have e' : c = z ∨ c = TI ∨ c = TO ∨ c = i1 ∨ c = i2 ∨ c = i3 := by simpa using hc
    rcases e' with q | q | q | q | q | q
    · rw [q]; exact ⟨_, hz, fun v q => nomatch q⟩
    · rw [q]; exact ⟨_, hTI, fun v q => nomatch q⟩
    · rw [q]; exact ⟨_, hTO, fun v q => nomatch q⟩
    · rw [q]; exact h1.obj
    · rw [q]; exact h2.obj
    · rw [q]; exact h3.obj
  keep := fun i h h' st k => by
    obtain ⟨hz, hTI, ⟨x, y, w, hTO⟩, h1, h2, h3, l⟩ := st
    exact ⟨k z (by simp) _ hz, k TI (by simp) _ hTI, ⟨x, y, w, k TO (by simp) _ hTO⟩, h1.at fun o q => k i1 (by simp) o q, h2.at fun o q => k i2 (by simp) o q, h3.at fun o q => k i3 (by simp) o q, l⟩
  item := by
    intro X hP hw hK hc i pins s σ H E I hf st hg
    subst hP hw hK
    obtain ⟨hz, hTI, ⟨x0, y0, w0, hTO⟩, h1, h2, h3, l1, l2, l3⟩ := st
    obtain ⟨hqx, hqy, hqz, hx, hy, hw⟩ := hg
    obtain ⟨its, rv, p, _⟩ := inv_seq I hqx
    obtain ⟨its2, rv2, p2, _⟩ := inv_seq I hqy
    obtain ⟨its3, rv3, p3, _⟩ := inv_seq I hqz
    obtain ⟨u, hu, ru⟩ := rv.get (List.getElem?_eq_getElem hx)
    obtain ⟨u2, hu2, ru2⟩ := rv2.get (List.getElem?_eq_getElem hy)
    obtain ⟨u3, hu3, ru3⟩ := rv3.get (List.getElem?_eq_getElem hw)
    have ll1 := rv.length
    have ll2 := rv2.length
    have ll3 := rv3.length
    have hzl : z < s.heap.objs.size := Heap.lt_size hz
    have hhd : X.A.in1.handled = none := I.ok.hd hc
    refine wpAny_pyNext_zipD3_item D (drwK hhd b1 i1 a1 n1 its.toArray) (drwK hhd b2 i2 a2 n2 its2.toArray) (drwK hhd b3 i3 a3 n3 its3.toArray) hz hTI hTO ⟨h1, p⟩ ⟨h2, p2⟩ ⟨h3, p3⟩ (by simp; omega) (by simp; omega) (by simp; omega) fun y1 y2 y3 h' tk e1 e2 e3 z' TO' h1' h2' h3' hT hsz hk => ?_
    have ey1 : y1 = u := by
      have : its.toArray[i]? = some u := by simpa using hu
      rw [this] at e1
      exact (Option.some.inj e1).symm
    have ey2 : y2 = u2 := by
      have : its2.toArray[i]? = some u2 := by simpa using hu2
      rw [this] at e2
      exact (Option.some.inj e2).symm
    have ey3 : y3 = u3 := by
      have : its3.toArray[i]? = some u3 := by simpa using hu3
      rw [this] at e3
      exact (Option.some.inj e3).symm
    subst ey1 ey2 ey3
    refine ⟨_, rfl, wpAny_letOwnedTupleGo_zip (s := { s with heap := h', toks := tk }) z' fun h'' z'' sb => ?_⟩
    have hT2 : h''.get? s.heap.objs.size = some { cls := .type "tuple", data := .seq #[y1, y2, y3] } := (sb.2 _ (Nat.ne_of_gt hzl)).trans hT
    have new : ObjOk X.prog X.w (upd H s.heap.objs.size (.tup [xs[i], ys[i], zs[i]])) h'' s.heap.objs.size (.tup [xs[i], ys[i], zs[i]]) :=
      ⟨by show 3 ≤ sizeLine; decide, [y1, y2, y3], .cons ru (.cons ru2 (.cons ru3 .nil)), ⟨_, hT2, rfl, _, rfl⟩⟩
    have I1 : Inv X pins σ (upd H s.heap.objs.size (.tup [xs[i], ys[i], zs[i]])) { s with heap := h'', toks := tk } :=
      I.turnedNew (t' := tk) (ch := [z, TI, TO, i1, i2, i3]) (fun c o hb q => (sb.2 c (fun q' => hb (by simp [q']))).trans (hk c o (fun q' => hb (by simp [q'])) (fun q' => hb (by simp [q'])) (fun q' => hb (by simp [q'])) (fun q' => hb (by simp [q'])) (fun q' => hb (by simp [q'])) q)) hf (Nat.le_refl _) new
    refine ⟨.ref s.heap.objs.size, _, I1, rfl, ⟨_, xs[i], ys[i], zs[i], rfl, I.hok.fresh (Nat.le_refl _), rfl, List.getElem?_eq_getElem hx, List.getElem?_eq_getElem hy, List.getElem?_eq_getElem hw⟩, ⟨z'', ?_, ⟨y1, y2, y3, ?_⟩, ?_, ?_, ?_, hx, hy, hw⟩, fun c hcm => ?_⟩
    · exact (sb.2 _ D.TIz).trans (hk _ _ D.TIz D.TITO D.TIi1 D.TIi2 D.TIi3 hTI)
    · exact (sb.2 _ D.TOz).trans TO'
    · exact h1'.1.at fun o q => (sb.2 _ D.zi1.symm).trans q
    · exact h2'.1.at fun o q => (sb.2 _ D.zi2.symm).trans q
    · exact h3'.1.at fun o q => (sb.2 _ D.zi3.symm).trans q
    · have hlt : c < s.heap.objs.size := by
        have e' : c = z ∨ c = TI ∨ c = TO ∨ c = i1 ∨ c = i2 ∨ c = i3 := by simpa using hcm
        rcases e' with q | q | q | q | q | q
        · rw [q]; exact hzl
        · rw [q]; exact Heap.lt_size hTI
        · rw [q]; exact Heap.lt_size hTO
        · rw [q]; obtain ⟨_, e1, _⟩ := h1.obj; exact Heap.lt_size e1
        · rw [q]; obtain ⟨_, e2, _⟩ := h2.obj; exact Heap.lt_size e2
        · rw [q]; obtain ⟨_, e3, _⟩ := h3.obj; exact Heap.lt_size e3
      rw [upd_ne (Nat.ne_of_lt hlt)]
      exact (hf c hcm).1
  done := by
    intro X hP hw hK hc i pins s σ H E I hf st hg
    subst hP hw hK
    obtain ⟨hz, hTI, ⟨x0, y0, w0, hTO⟩, h1, h2, h3, l1, l2, l3⟩ := st
    obtain ⟨hqx, hqy, hqz, hend⟩ := hg
    obtain ⟨its, rv, p, _⟩ := inv_seq I hqx
    obtain ⟨its2, rv2, p2, _⟩ := inv_seq I hqy
    obtain ⟨its3, rv3, p3, _⟩ := inv_seq I hqz
    have ll1 := rv.length
    have ll2 := rv2.length
    have ll3 := rv3.length
    have hhd : X.A.in1.handled = none := I.ok.hd hc
    refine wpAny_pyNext_zipD3_end D (drwK hhd b1 i1 a1 n1 its.toArray) (drwK hhd b2 i2 a2 n2 its2.toArray) (drwK hhd b3 i3 a3 n3 its3.toArray) hz hTI hTO ⟨h1, p⟩ ⟨h2, p2⟩ ⟨h3, p3⟩ (by simp; omega) (by simp; omega) (by simp; omega) (by simp; omega) fun h' tk hk => ⟨rfl, I.turnedL (t' := tk) (ch := [z, TI, TO, i1, i2, i3]) (fun c o hb q =>
      hk c o (fun q' => hb (by simp [q'])) (fun q' => hb (by simp [q'])) (fun q' => hb (by simp [q'])) (fun q' => hb (by simp [q'])) (fun q' => hb (by simp [q'])) q) hf⟩
  self := fun A i s Q E st h => wpAny_pyIter_zip st.1 h
theorem sep3 (n a b c : Nat) (ha : a < n) (hb : b < n) (hc : c < n) : ZipSep3 (n + 5) (n + 3) (n + 4) n (n + 1) (n + 2) [n, a] [n + 1, b] [n + 2, c] := by
  constructor <;> first | exact List.mem_cons_self | (refine neN' ?_; omega) | (refine notIn2 (neN' ?_) (neN' ?_) <;> omega)
def iZip3 (K : Fr) (ta : TA) : TI := fun σ H R => ta σ H fun vs H1 => ∃ b1 b2 b3 a b c xs ys zs, vs = [.ref a, .ref b, .ref c] ∧ SqK K b1 H1 a xs ∧ SqK K b2 H1 b ys ∧ SqK K b3 H1 c zs ∧ R (Itz3 K b1 b2 b3 a b c xs ys zs) H1
theorem pi_zip3 {X : Cx} {e e2 e3 : Expr} {ta : TA} {p pos tpos : Pos} {elts : List Expr} {kk : Nat} (hg : Gl X "zip") (hm : X.mg "zip" = none) (ha : PA X [e, e2, e3] ta)
    (hs : starEach [e, e2, e3] X.env = (false, eval e X.env) :: starEach [e2, e3] X.env := by rfl) (hpl : (backTo pos (starEach [e2, e3] X.env)).any (·.1) = false := by rfl) :
    PI X (.Tuple elts kk tpos) (.Call (.Name "zip" p) [e, e2, e3] [] pos) (iZip3 X.K ta) := by
  refine ⟨fun pins s σ H R I h => ?_⟩
  refine Call_ (ld_blt I hg hm PyProof.Rows.boot_zip (PyProof.Rows.callWith_type1 (thn (ha.run pos pins s σ H _ I h) fun us s1 ⟨vs, H1, I1, r1, q1⟩ => ?_) hs hpl))
  obtain ⟨b1, b2, b3, a, b, c, xs, ys, zs, ex, hqx, hqy, hqz, q⟩ := q1
  subst ex
  cases r1 with
  | cons r rr =>
    cases rr with
    | cons r' rr =>
      cases rr with
      | cons r'' rr =>
        cases rr
        cases r
        cases r'
        cases r''
        obtain ⟨its, rv, p1, lt1⟩ := inv_seq I1 hqx
        obtain ⟨its2, rv2, p2, lt2⟩ := inv_seq I1 hqy
        obtain ⟨its3, rv3, p3, lt3⟩ := inv_seq I1 hqz
        refine zip_begins3 (begK b1 a its.toArray) (begK b2 b its2.toArray) (begK b3 c its3.toArray) p1 p2 p3 fun h' hz hTI hTO h1 h2 h3 hsz hk => wpAny_pyIter_zip hz ?_
        have I2 : Inv X pins σ H1 { s1 with heap := h' } := I1.kept (t' := s1.toks) hk
        refine ⟨s1.heap.objs.size + 5, [s1.heap.objs.size + 5, s1.heap.objs.size + 3, s1.heap.objs.size + 4, s1.heap.objs.size, s1.heap.objs.size + 1, s1.heap.objs.size + 2], _, _, H1, rfl, I2, turn_zip3 (sep3 s1.heap.objs.size a b c lt1 lt2 lt3) (Nat.ne_of_lt lt1) (Nat.ne_of_lt (Nat.lt_succ_of_lt lt2)) (Nat.ne_of_lt (Nat.lt_succ_of_lt (Nat.lt_succ_of_lt lt3))), ⟨hz, hTI, ⟨_, _, _, hTO⟩, HIt.new h1, HIt.new h2, HIt.new h3, Nat.zero_le _, Nat.zero_le _, Nat.zero_le _⟩, fun d hcm => ?_, q⟩
        have e' : d = s1.heap.objs.size + 5 ∨ d = s1.heap.objs.size + 3 ∨ d = s1.heap.objs.size + 4 ∨ d = s1.heap.objs.size ∨ d = s1.heap.objs.size + 1 ∨ d = s1.heap.objs.size + 2 := by simpa using hcm
        have hle : s1.heap.objs.size ≤ d := by
          rcases e' with z | z | z | z | z | z
          · rw [z]; exact Nat.le_add_right _ _
          · rw [z]; exact Nat.le_add_right _ _
          · rw [z]; exact Nat.le_add_right _ _
          · rw [z]; exact Nat.le_refl _
          · rw [z]; exact Nat.le_add_right _ _
          · rw [z]; exact Nat.le_add_right _ _
        exact I1.fpOk hle (I1.hok.fresh hle)
def zipL3 : List D → List D → List D → List D
  | x :: xs, y :: ys, z :: zs => .tuple [x, y, z] :: zipL3 xs ys zs
  | _, _, _ => []
theorem zipL3_length : ∀ xs ys zs : List D, (zipL3 xs ys zs).length = min xs.length (min ys.length zs.length)
  | [], _, _ => by simp [zipL3]
  | _ :: _, [], _ => by simp [zipL3]
  | _ :: _, _ :: _, [] => by simp [zipL3]
  | x :: xs, y :: ys, z :: zs => by
    simp only [zipL3, List.length_cons, zipL3_length xs ys zs]
    omega
theorem zipL3_get : ∀ {xs ys zs : List D} {i : Nat} {d : D}, (zipL3 xs ys zs)[i]? = some d → ∃ x y z, xs[i]? = some x ∧ ys[i]? = some y ∧ zs[i]? = some z ∧ d = .tuple [x, y, z]
  | [], _, _, i, d, h => by simp [zipL3] at h
  | _ :: _, [], _, i, d, h => by simp [zipL3] at h
  | _ :: _, _ :: _, [], i, d, h => by simp [zipL3] at h
  | x :: xs, y :: ys, z :: zs, 0, d, h => by
    simp [zipL3] at h
    exact ⟨x, y, z, rfl, rfl, rfl, h.symm⟩
  | x :: xs, y :: ys, z :: zs, i + 1, d, h => by
    simp [zipL3] at h
    obtain ⟨a, b, c, e1, e2, e3, e⟩ := zipL3_get h
    exact ⟨a, b, c, by simpa using e1, by simpa using e2, by simpa using e3, e⟩
def zipN : List D → Option (List D)
  | [x, y, z] => (seqB x).bind fun p => (seqB y).bind fun q => (seqB z).map fun r => zipL3 p.2 q.2 r.2
  | _ => none
theorem walk_zip3 {K : Fr} {G : Hp} {a b c : Addr} {b1 b2 b3 : Bool} {vs ws us : List V} {xs ys zs : List D} (ha : ∀ H, Same G H → SqK K b1 H a vs) (hb : ∀ H, Same G H → SqK K b2 H b ws) (hc : ∀ H, Same G H → SqK K b3 H c us) (da : DqAll K G vs xs) (db : DqAll K G ws ys) (dc : DqAll K G us zs) : WalkD K (Itz3 K b1 b2 b3 a b c vs ws us) G (zipL3 xs ys zs) := by
  have l1 := da.length
  have l2 := db.length
  have l3 := dc.length
  refine ⟨fun i G' H s1 s2 hi => ?_, fun i G' H s1 s2 hi => ?_, fun i G' H v H' d s1 s2 hd hy => ?_⟩
  · rw [zipL3_length] at hi
    exact ⟨ha H (s1.trans s2), hb H (s1.trans s2), hc H (s1.trans s2), by omega, by omega, by omega⟩
  · rw [zipL3_length] at hi
    exact ⟨ha H (s1.trans s2), hb H (s1.trans s2), hc H (s1.trans s2), by omega⟩
  · obtain ⟨T, x, y, w, rfl, hT, rfl, f1, f2, f3⟩ := hy
    obtain ⟨dx, dy, dz, e1, e2, e3, rfl⟩ := zipL3_get hd
    refine ⟨_, Gr.new s2 hT, .tup (SqT.of upd_same) ?_⟩
    have gg := (Gr.new (o := .tup [x, y, w]) s2 hT).gg
    exact .cons (Dq_mono (s1.trans gg) (da.idx e1 f1)) (.cons (Dq_mono (s1.trans gg) (db.idx e2 f2)) (.cons (Dq_mono (s1.trans gg) (dc.idx e3 f3)) .nil))
theorem qi_zipN {X : Cx} {e e2 e3 : Expr} {p pos tpos : Pos} {m : M (List D)} {elts : List Expr} {kk : Nat} (hm : X.mg "zip" = none) (ha : QA X [e, e2, e3] m) (hg : Gl X "zip" := by rfl)
    (hs : starEach [e, e2, e3] X.env = (false, eval e X.env) :: starEach [e2, e3] X.env := by rfl) (hpl : (backTo pos (starEach [e2, e3] X.env)).any (·.1) = false := by rfl) :
    QI X (.Tuple elts kk tpos) (.Call (.Name "zip" p) [e, e2, e3] [] pos) (iApp zipN m) := by
  refine PI.imp (pi_zip3 hg hm ha hs hpl) fun σ H Q h => ?_
  obtain ⟨R, G, ρ, ds, ρ', rp, e, k⟩ := h
  obtain ⟨xs, h1, h2⟩ := iApp_some e
  refine ⟨R, G, ρ, _, _, rp, h1, fun G1 H1 v1 s1 r1 d1 => ?_⟩
  unfold zipN at h2
  split at h2
  · rw [Option.bind_eq_some_iff] at h2
    obtain ⟨⟨b1, xs1⟩, e1, h2⟩ := h2
    rw [Option.bind_eq_some_iff] at h2
    obtain ⟨⟨b2, xs2⟩, e2, h2⟩ := h2
    rw [Option.map_eq_some_iff] at h2
    obtain ⟨⟨b3, xs3⟩, e3, h2⟩ := h2
    cases h2
    cases d1 with
    | cons da dr =>
      cases dr with
      | cons db dr =>
        cases dr with
        | cons dc dr =>
          cases dr
          obtain ⟨a, vs, rfl, ha, hva⟩ := dq_seq da e1
          obtain ⟨b, ws, rfl, hb, hvb⟩ := dq_seq db e2
          obtain ⟨c, us, rfl, hc, hvc⟩ := dq_seq dc e3
          exact ⟨b1, b2, b3, a, b, c, vs, ws, us, rfl, ha H1 r1.subG, hb H1 r1.subG, hc H1 r1.subG, k G1 H1 _ s1 r1 (walk_zip3 ha hb hc hva hvb hvc)⟩
  · cases h2
end QL
set_option Elab.async false
set_option linter.all false
set_option maxRecDepth 100000
set_option maxHeartbeats 1000000
/-! ### sorted of a tuple of whole numbers -/
namespace SrtO
open PySem PyProof.Rows Srt
section
variable {prog : Program} {w : World} {A : Around} {E : Value → Shared → Prop} {s : Shared}
theorem collect_tup {l : Addr} {vs : List Value} {Q : List Value → Shared → Prop} (hl : s.heap.IsTuple l vs.toArray)
    (h : Q vs { s with heap := (s.heap.push (seqObj "list" #[] 0)).update s.heap.objs.size (Obj.mapSeq (· ++ vs.toArray)) }) (hsz : vs.length ≤ sizeLine := by size_fits) :
    wpAny (model prog w) A (collect (.ref l)) Q E s := by
  obtain ⟨o, ho, hc, n, hd⟩ := id hl
  unfold collect
  refine wpAny_bind (wpAny_runValue (codeAny_builtin entry_proto_collect' ?_))
  show wpAny _ _ (do again (.builtin "list.__iadd__" ⟨[← newList [], .ref l], []⟩)) _ _ s
  refine wpAny_bind (wpAny_newList (wpAny_pure ⟨Code.quiet_builtin _ (by decide +kernel), codeAny_builtin entry_list_iadd' ?_⟩))
  show wpAny _ _ (Builtin.List.listExtendWith (.ref s.heap.objs.size) (.ref l) (.ref s.heap.objs.size)) _ _ { s with heap := s.heap.push (seqObj "list" #[] 0) }
  unfold Builtin.List.listExtendWith
  have ho' : (s.heap.push (seqObj "list" #[] 0)).get? l = some o := Heap.get?_push_of_some _ ho
  refine wpAny_bind (wpAny_typeOf (T := "tuple") ⟨o, ho', hc⟩ ?_)
  have ht : (Value.type "tuple" == Value.type "tuple") = true := by rfl
  rw [if_pos (by rw [ht]; simp)]
  refine wpAny_bind (listItems_at ho' hd ?_)
  refine wpAny_bind (listItems_at (xs := #[]) (n := 0) (Heap.get?_push_size _ rfl) rfl ?_)
  rw [if_neg (by simp)]
  refine wpAny_bind (listUpdate_at (xs := #[]) (n := 0) (Heap.get?_push_size _ rfl) rfl ?_ (Nat.zero_le _) (by show (#[] ++ vs.toArray).size ≤ sizeLine + 1; simp only [Array.size_append, List.size_toArray, List.length_nil]; omega))
  refine wpAny_pure ?_
  show wpAny (model prog w) A (do
      let o ← load s.heap.objs.size
      match o.data with
      | .seq xs _ => pure xs.toList
      | _ => unsupported "internal:collect") Q E { s with heap := (s.heap.push (seqObj "list" #[] 0)).update s.heap.objs.size (Obj.mapSeq (· ++ vs.toArray)) }
  refine wpAny_bind (wpAny_load (get?_update_seq (Heap.get?_push_size _ rfl) _) ?_)
  show wpAny _ _ (pure ((#[] : Array Value) ++ vs.toArray).toList) Q E _
  rw [show ((#[] : Array Value) ++ vs.toArray).toList = vs by simp]
  exact wpAny_pure h
theorem sorted_ordT {l : Addr} {vs : List Value} {ltv : Value → Value → Bool} {Q : Value → Shared → Prop} (O : Swo ltv) (hl : s.heap.IsTuple l vs.toArray) (hz : vs.length ≤ sizeLine)
    (hS : 2 ≤ vs.length → ∀ (h₁ : Heap) (a : Addr), h₁.get? a = some (seqObj "list" vs.toArray 0) → (∀ b o, s.heap.get? b = some o → b ≠ a ∧ h₁.get? b = some o) → SortableO prog w A.in1.in1 { s with heap := h₁ } a vs ltv)
    (h : ∀ out : List Value, Srtd ltv out → Stb ltv out vs → Q (.ref (s.heap.objs.size + 1)) { s with heap := sortedAll s.heap vs out.toArray }) :
    wpAny (model prog w) A (call (.builtin "sorted") [.ref l]) Q E s := by
  refine Calls.call_function_entry kind_sorted plain_sorted entry_sorted (args_sorted1 _) ?_
  unfold Builtin.«sorted»
  refine wpAny_bind (m := checkCount "sorted" 1 1 _) (wpAny_pure ?_)
  refine wpAny_bind (collect_tup hl ?_ hz)
  refine wpAny_bind (wpAny_newList ?_ hz)
  have hsz : ((s.heap.push (seqObj "list" #[] 0)).update s.heap.objs.size (Obj.mapSeq (· ++ vs.toArray))).objs.size = s.heap.objs.size + 1 := by
    rw [Heap.size_update, size_push']
  have hoL : (((s.heap.push (seqObj "list" #[] 0)).update s.heap.objs.size (Obj.mapSeq (· ++ vs.toArray))).push (seqObj "list" vs.toArray 0)).get? (s.heap.objs.size + 1) = some (seqObj "list" vs.toArray 0) := by
    rw [← hsz]; exact Heap.get?_push_size _ rfl
  have keep : ∀ b o, s.heap.get? b = some o → b ≠ s.heap.objs.size + 1 ∧ (((s.heap.push (seqObj "list" #[] 0)).update s.heap.objs.size (Obj.mapSeq (· ++ vs.toArray))).push (seqObj "list" vs.toArray 0)).get? b = some o := fun b o q => by
    have hlt : b < s.heap.objs.size := Heap.lt_size q
    refine ⟨Nat.ne_of_lt (Nat.lt_succ_of_lt hlt), Heap.get?_push_of_some _ ?_⟩
    rw [Heap.get?_update_ne _ _ _ _ (Nat.ne_of_lt hlt)]
    exact Heap.get?_push_of_some _ q
  show wpAny _ _ _ _ _ { s with heap := ((s.heap.push (seqObj "list" #[] 0)).update s.heap.objs.size (Obj.mapSeq (· ++ vs.toArray))).push (seqObj "list" vs.toArray 0) }
  rw [hsz]
  refine wpAny_bind (wpAny_holding (wpAny_call_entry slot_list_sort ⟨_, hoL, rfl⟩ entry_list_sort (list_sort_ord O hoL hz (fun h2 => hS h2 _ _ hoL keep) fun out hs hb => ⟨_, rfl, ?_⟩) (args_list_sort _)))
  exact wpAny_pure ⟨_, rfl, h out hs hb⟩
end
end SrtO
namespace QL
open PySem PySem.Spec PyProof.Rows L2
def rSortedIT (K : Fr) : List V → Hp → VK → Prop := fun vs H Q => ∃ (a : Addr) (ns : List Int), vs = [V.ref a] ∧ SqT K H a (ns.map V.int) ∧
  ∀ (ns' : List Int) (p : Addr), ns'.Perm ns → ns'.Pairwise (· ≤ ·) → H p = none → Q (.ref p) (upd H p (.lst (ns'.map V.int)))
theorem cr_sortedIT {X : Cx} : CallR X (.builtin "sorted") (rSortedIT X.K) := by
  intro pins s σ H vs us Q I r h
  obtain ⟨a, ns, rfl, hs, q⟩ := h
  obtain ⟨its, rv, hl, hz⟩ := I.tuple hs
  rw [Vals.ref1 r]
  have hi := rv.ints
  have hl' : s.heap.IsTuple a its.toArray := hl
  refine SrtO.sorted_ordT SrtO.swo_int hl' (by rw [← rv.length]; exact hz) (fun h2 h₁ a' _ _ => SrtO.ints_sortable hi h2) fun out h1 h2 => ?_
  obtain ⟨k1, k2, k3⟩ := SrtO.ints_out hi h1 h2
  obtain ⟨ep, he'⟩ := PyProof.Rows.sortedAll_at s.heap its out.toArray
  have hlen : ((out.map SrtO.iv).map V.int).length ≤ sizeLine := by
    rw [List.length_map, k2.length_eq]
    rw [List.length_map] at hz
    exact hz
  exact ⟨.ref _, upd H (s.heap.objs.size + 1) (.lst ((out.map SrtO.iv).map V.int)), I.laid (t' := s.toks) (fun _ _ => PyProof.Rows.sortedAll_old) (Nat.le_succ _) ⟨hlen, out, ep, vals_of_ints k1, he'⟩, rfl, q _ _ k2 k3 (I.hok.fresh (Nat.le_succ _))⟩
def dSortedT : List D → Option D
  | [.tuple a] => (intsOf a).map fun ns => .list ((ns.mergeSort (· ≤ ·)).map .int)
  | _ => none
theorem d_sortedT {K : Fr} : CallD K (rSortedIT K) dSortedT := by
  intro G H vs ds d Q s h e k
  unfold dSortedT at e
  split at e
  · rw [Option.map_eq_some_iff] at e
    obtain ⟨bs, hb, e⟩ := e
    cases e
    obtain ⟨v, rfl, hd⟩ := one_of h
    cases hd with
    | tup h1 a1 =>
      rw [ints_of a1 hb] at h1
      refine ⟨_, bs, rfl, SqT_mono s h1, fun ns' p hp hs hn => k _ _ _ (Gr.new s hn) ?_⟩
      rw [← sorted_one hp hs]
      refine .lst upd_same ?_
      have : ∀ (G : Hp) (l : List Int), DqAll K G (l.map V.int) (l.map PyData.int) := fun G l => by
        induction l with
        | nil => exact .nil
        | cons a r ih => exact .cons (.int _) ih
      exact this _ _
  · cases e
end QL
set_option Elab.async false
set_option linter.all false
set_option maxRecDepth 100000
set_option maxHeartbeats 1000000
/-! ### xs[::-1], xs a tuple -/
namespace HT
open PySem PyProof.Rows L2
section
variable {prog : Program} {w : World} {A : Around} {E : Value → Shared → Prop} {s : Shared}
theorem adjust_rev (n : Nat) : Builtin.Slice.sliceAdjust none none (-1) (n : Int) = ((n : Int) - 1, -1) := by
  unfold Builtin.Slice.sliceAdjust
  first
  | rfl
  | (simp; done)
  | (simp; omega)
theorem places_rev (n : Nat) : Builtin.Slice.slicePlaces ((n : Int) - 1) (-1) (-1) = n := by
  unfold Builtin.Slice.slicePlaces
  by_cases h : 0 < n
  · have h1 : ((-1 : Int) < (n : Int) - 1) := by omega
    simp
    omega
  · have : n = 0 := by omega
    subst this
    first | rfl | simp
theorem sliceApplied_rev {sl : Addr} {vs : Value} {n : Nat} {Q : Int × Int × Nat → Shared → Prop} (hs : s.heap.IsSliceOf sl .none .none vs) (ps : IsPart vs (some (-1)))
    (h : Q ((n : Int) - 1, -1, n) s) : wpAny (model prog w) A (Builtin.Slice.sliceApplied (.ref sl) (pure (n : Int))) Q E s := by
  obtain ⟨os, hos, hcs, hds⟩ := id hs
  unfold Builtin.Slice.sliceApplied Builtin.Slice.sliceFields
  refine wpAny_bind (wpAny_bind (wpAny_field hos hds (x := .none) rfl (wpAny_bind (wpAny_field hos hds (x := .none) rfl (wpAny_bind (wpAny_field hos hds (x := vs) rfl (wpAny_pure ?_)))))))
  refine wpAny_bind (slicePart_ ps ?_)
  show wpAny _ _ (if ((-1 : Int) == 0) = true then _ else _) _ _ s
  rw [if_neg (by decide)]
  refine wpAny_bind (slicePart_none (wpAny_bind (slicePart_none (wpAny_bind (wpAny_pure ?_)))))
  show wpAny _ _ (match Builtin.Slice.sliceAdjust none none (-1) (n : Int) with | (lo, hi) => pure (lo, (-1 : Int), Builtin.Slice.slicePlaces lo hi (-1))) _ _ s
  rw [adjust_rev n]
  show wpAny _ _ (pure ((n : Int) - 1, (-1 : Int), Builtin.Slice.slicePlaces ((n : Int) - 1) (-1) (-1))) _ _ s
  rw [places_rev]
  exact wpAny_pure h
theorem fm_congr {α β : Type} {f g : α → Option β} : ∀ l : List α, (∀ a ∈ l, f a = g a) → l.filterMap f = l.filterMap g
  | [], _ => rfl
  | a :: l, h => by
    rw [List.filterMap_cons, List.filterMap_cons, h a List.mem_cons_self, fm_congr l fun b hb => h b (List.mem_cons_of_mem _ hb)]
theorem pick_rev (xs : Array Value) : ((List.range xs.size).filterMap fun (m : Nat) => xs[((xs.size : Int) - 1 + (m : Int) * -1).toNat]?).toArray = xs.toList.reverse.toArray := by
  have e : (List.range xs.size).filterMap (fun (m : Nat) => xs[((xs.size : Int) - 1 + (m : Int) * -1).toNat]?) = ((List.range xs.size).map fun k => xs.size - 1 - k).filterMap (xs[·]?) := by
    rw [List.filterMap_map]
    refine fm_congr _ fun m hm => ?_
    have := List.mem_range.mp hm
    show xs[_]? = xs[xs.size - 1 - m]?
    congr 1
    omega
  rw [e, PySem.W.krv_range, List.filterMap_reverse, PySem.W.krv_all]
theorem getItem_tuple_rev {t sl : Addr} {items : Array Value} {vs : Value} {Q : Value → Shared → Prop} (ht : IsTup s.heap t items) (hs : s.heap.IsSliceOf sl .none .none vs) (ps : IsPart vs (some (-1)))
    (h : Q (.ref s.heap.objs.size) { s with heap := s.heap.push { cls := .type "tuple", data := .seq items.toList.reverse.toArray } })
    (hsz : items.size ≤ sizeLine) : wpAny (model prog w) A (getItem (.ref t) (.ref sl)) Q E s := by
  have htake : sizeOk (.seq items.toList.reverse.toArray) := by
    show items.toList.reverse.toArray.size ≤ sizeLine
    rw [List.size_toArray, List.length_reverse, Array.length_toList]
    exact hsz
  obtain ⟨os, hos, hcs, hds⟩ := id hs
  have hTs : s.TypeIs (.ref sl) "slice" := ⟨os, hos, hcs⟩
  unfold getItem
  try with_reducible refine wpAny_holding ?_
  first | refine wpAny_bind (wpAny_pure ?_) | skip
  refine wpAny_bind (wpAny_sequenceKey ht.typeIs (by decide) ?_)
  refine wpAny_bind (wpAny_callSpecial?_slot (name := Str.ofString "__getitem__") ht.typeIs PyProof.Rows.slot_tuple_getitem
    (wpAny_call_entry PyProof.Rows.slot_tuple_getitem ht.typeIs entry_tuple_getitem ?_ (args_tuple_getitem _ _)))
  show wpAny _ _ (Builtin.Tuple.tupleItemsOf (.ref t) >>= _) _ _ s
  refine wpAny_bind (tupleItemsOf_ ht ?_)
  refine wpAny_bind (wpAny_typeOf hTs ?_)
  rw [if_pos (by decide)]
  refine wpAny_bind (sliceApplied_rev hs ps ?_)
  have hno : ¬ ((((items.size : Int) - 1) == 0 && (-1 : Int) == 1 && items.size == items.size) = true) := by
    intro q
    rw [Bool.and_eq_true, Bool.and_eq_true] at q
    exact absurd (eq_of_beq q.1.2) (by decide)
  show wpAny _ _ (if (((items.size : Int) - 1) == 0 && (-1 : Int) == 1 && items.size == items.size) = true then _ else _) _ _ s
  rw [if_neg hno, pick_rev]
  first
    | exact wpAny_bind (m := Builtin.Tuple.tupleExact _) (wpAny_newObj_type (wpAny_pure ⟨_, rfl, wpAny_pure h⟩) htake)
    | exact wpAny_bind (m := Builtin.Tuple.tupleExact _) (wpAny_newObj_type (wpAny_bind (wpAny_pure (wpAny_pure ⟨_, rfl, wpAny_pure h⟩))) htake)
    | exact wpAny_bind (wpAny_bind (m := Builtin.Tuple.tupleExact _) (wpAny_newObj_type (wpAny_pure (wpAny_pure ⟨_, rfl, wpAny_pure h⟩)) htake))
    | exact wpAny_bind (wpAny_bind (m := Builtin.Tuple.tupleExact _) (wpAny_newObj_type (wpAny_pure ⟨_, rfl, wpAny_pure h⟩) htake))
end
end HT
namespace QL
open PySem PySem.Spec PyProof.Rows L2
section
variable {X : Cx}
def tRevT (K : Fr) (te : TE) : TE := fun σ H Q => te σ H fun x H1 => ∃ a xs, x = .ref a ∧ SqT K H1 a xs ∧ ∀ p, H1 p = none → Q (.ref p) (upd H1 p (.tup xs.reverse))
theorem pe_revT {e : Expr} {te : TE} {k : Nat} {p1 p2 p3 pos : Pos} (he : PE X e te) : PE X (.Subscript e (.Slice none none (some (.UnaryOp .USub (.Constant (.int 1) k p1) p2)) p3) pos) (tRevT X.K te) := by
  refine ⟨fun pins s σ H Q I h => ?_⟩
  refine Subscript_ (thn (he.run pins s σ H _ I h) fun v s1 ⟨x, H1, I1, r1, q1⟩ => ?_)
  obtain ⟨a, xs, ex, hx, q⟩ := q1
  subst ex
  cases r1
  have hst : PO X (some (.UnaryOp .USub (.Constant (.int 1) k p1) p2)) (tPart (tUn (rU fun i => .int (-i)) (tC (.int 1)))) := po_some (pe_un un_neg pe_int)
  refine wpAny_Slice (thn (po_none.run pins s1 σ H1 (fun o H2 => o = none ∧ H2 = H1) I1 ⟨rfl, rfl⟩) fun vl s2 ⟨l, H2, I2, pl, el, e2⟩ => ?_)
  subst el e2
  refine thn (po_none.run pins s2 σ H2 (fun o H3 => o = none ∧ H3 = H2) I2 ⟨rfl, rfl⟩) fun vu s3 ⟨u, H3, I3, pu, eu, e3⟩ => ?_
  subst eu e3
  refine thn (hst.run pins s3 σ H3 (fun o H4 => o = some (-1) ∧ H4 = H3) I3 ⟨1, rfl, -1, rfl, rfl, rfl⟩) fun vs s4 ⟨o, H4, I4, ps, eo, e4⟩ => ?_
  subst eo e4
  cases pl
  cases pu
  have I5 : Inv X pins σ H4 { s4 with heap := s4.heap.push { cls := .type "slice", data := .fields #[.none, .none, vs] } } := I4.kept (t' := s4.toks) fun b ob q => Heap.get?_push_of_some _ q
  obtain ⟨its, r, ht, hz⟩ := I5.tuple hx
  have hlen := r.length
  show wpAny (model X.prog X.w) X.A (subscriptTail e (.Slice none none (some (.UnaryOp .USub (.Constant (.int 1) k p1) p2)) p3) (.ref a) (.ref s4.heap.objs.size)) (EP X pins σ Q) X.xe { s4 with heap := s4.heap.push { cls := .type "slice", data := .fields #[.none, .none, vs] } }
  refine tail_any (ops := [.ref a, .ref s4.heap.objs.size]) ht.typeIs (PyProof.Rows.slot_tuple_getitem.lookup) ?_ (by with_unfolding_all rfl)
  refine HT.getItem_tuple_rev ht (Heap.IsSliceOf.new _ .none .none vs) ps ?_ (by rw [List.size_toArray]; omega)
  refine ⟨.ref _, _, I5.laid (t' := s4.toks) (o := .tup xs.reverse) (fun b ob q => Heap.get?_push_of_some _ q) (Nat.le_refl _) ?_, rfl, q _ (I5.hok.fresh (Nat.le_refl _))⟩
  exact ⟨by rw [List.length_reverse]; exact hz, _, r.reverse, ⟨_, Heap.get?_push_size _ rfl, rfl, _, rfl⟩⟩
def dRevT : D → Option D
  | .tuple ds => some (.tuple ds.reverse)
  | _ => none
theorem qe_revT {e : Expr} {m : M D} {k : Nat} {p1 p2 p3 pos : Pos} (he : QE X e m) : QE X (.Subscript e (.Slice none none (some (.UnaryOp .USub (.Constant (.int 1) k p1) p2)) p3) pos) (eOp1 dRevT m) := by
  refine PE.imp (pe_revT he) fun σ H Q h => ?_
  obtain ⟨R, G, ρ, d, ρ', rp, e, kk⟩ := h
  unfold eOp1 at e
  rw [Option.bind_eq_some_iff] at e
  obtain ⟨⟨x, ρ1⟩, h1, e⟩ := e
  rw [Option.map_eq_some_iff] at e
  obtain ⟨w, h3, e⟩ := e
  cases e
  refine ⟨R, G, ρ, x, _, rp, h1, fun G1 H1 v1 s1 r1 d1 => ?_⟩
  cases d1 with
  | tup hs ha =>
    rename_i a xs ds
    cases h3
    refine ⟨_, _, rfl, SqT_mono r1.subG hs, fun p hp => ?_⟩
    have g := Gr.new (o := .tup xs.reverse) r1.subG hp
    exact kk _ _ _ (s1.trans g.gg) (r1.grow g) (.tup (SqT.of upd_same) (DqAll_mono g.gg ha.reverse))
  | _ => cases h3
end
end QL
set_option Elab.async false
set_option linter.all false
set_option maxRecDepth 100000
set_option maxHeartbeats 1000000
/-! ### defs that raise -/
namespace QL
open PySem PySem.Spec PyProof.Rows L2
/-- an exception of the class named x leaves -/
def tRZ (K : Fr) (cm : Str → Value) (E : XK) (rz : Ro → Option Str) : TS := fun _ σ H => ∃ R G ρ x, Rep K R G H ρ σ ∧ rz ρ = some x ∧ ∀ G' H' σ' ρ', Same G G' → Rep K R G' H' ρ' σ' → E (cm x) none H'
def spR (K : Fr) (cm : Str → Value) (X : List D → Option Str) (n : Nat) : Sp := fun vs H Q E => vs.length = n ∧ ∃ G ds x, Same G H ∧ DqAll K G vs ds ∧ X ds = some x ∧ ∀ G' H', Gr G H G' H' → E (cm x) none H'
def spE (K : Fr) (cm : Str → Value) (F : List D → Option D) (X : List D → Option Str) (n : Nat) : Sp := fun vs H Q E => spP K F n vs H Q E ∨ spR K cm X n vs H Q E
def runR (n N : Nat) (rz : Ro → Option Str) : List D → Option Str := fun ds => if ds.length = n then rz (ds.map Sl.dat ++ List.replicate (N - n) Sl.un) else none
theorem runR_len {n N : Nat} {rz : Ro → Option Str} : ∀ ds d, runR n N rz ds = some d → ds.length = n := fun ds d h => by
  unfold runR at h
  split at h
  · assumption
  · cases h
def xSeq (m : MS) (rz : Ro → Option Str) : Ro → Option Str := fun ρ => (m ρ).bind fun p => match p.1 with
  | .nx => rz p.2
  | _ => none
def xIf (m : M Bool) (rz : Ro → Option Str) : Ro → Option Str := fun ρ => (m ρ).bind fun p => if p.1 = true then rz p.2 else none
def xCall (Xf : List D → Option Str) (m : M (List D)) : Ro → Option Str := fun ρ => (m ρ).bind fun p => Xf p.1
def xExc (y : Str) : Ro → Option Str := fun _ => some y
section
variable {X : Cx} {cm : Str → Value} {E : XK} {pos p p2 : Pos}
/-- the facts of an exception class of the program -/
structure ClsOk (K : Fr) (mg : Str → Option Value) (cm : Str → Value) (bmB : List Value) (newId : String) (y : Str) : Prop where
  ex : ∃ C, cm y = .ref C ∧ mg y = some (.ref C) ∧ PySem.W.keepIn K (.ref C) = true ∧ PySem.W.excIn K C bmB newId = true ∧ PySem.W.subIn K (.ref C) (.type "BaseException") = some true ∧ PySem.W.typeIn K (.ref C) = some (.type "type")
theorem rz_raise {B newId initId : String} {bmB : List Value} {y m : Str} {j : Nat} {pos' : Pos} (F : ExcBaseFacts B newId initId bmB) (hC : ClsOk X.K X.mg cm bmB newId y) (tk : Takes X (fun cls d _ H => E cls d H)) (hc : X.calm = true := by rfl) (hg : Gl X y := by rfl) (hdb : (y == ("__debug__" : Str)) = false := by decide) :
    PS X (.Raise (some (.Call (.Name y p) [.Constant (.str m) j p2] [] pos)) none pos') (tRZ X.K cm E (xExc y)) := by
  obtain ⟨C, h1, h2, h3, h4, h5, h6⟩ := hC.ex
  refine PS.imp (ps_raise hc tk (pmk_own F h4 h2 h3 (raises_own h5 h6) hg hdb)) fun D σ H h => ?_
  obtain ⟨R, G, ρ, x, rp, e, k⟩ := h
  cases e
  have := k G H σ ρ (.refl _) rp
  rw [h1] at this
  exact this
theorem rz_one {st : Stmt} {rz : Ro → Option Str} (h : PS X st (tRZ X.K cm E rz)) {rest : List Stmt} : PSs X (st :: rest) (tRZ X.K cm E rz) :=
  PSs.imp (pss_cons h pss_never) fun D σ H h => h
theorem rz_cons {st : Stmt} {rest : List Stmt} {m : MS} {W : List Nat} {rz : Ro → Option Str} (h1 : QS X W st m) (h2 : PSs X rest (tRZ X.K cm E rz)) : PSs X (st :: rest) (tRZ X.K cm E (xSeq m rz)) := by
  refine PSs.imp (pss_cons h1 h2) fun D σ H h => ?_
  obtain ⟨R, G, ρ, x, rp, e, k⟩ := h
  unfold xSeq at e
  rw [Option.bind_eq_some_iff] at e
  obtain ⟨⟨fl, ρ1⟩, hm, e⟩ := e
  cases fl with
  | nx =>
    refine ⟨R, G, ρ, .nx, ρ1, rp, hm, fun G1 H1 σ1 s1 r1 f1 => ?_⟩
    exact ⟨R, G1, ρ1, x, r1, e, fun G2 H2 σ2 ρ2 s2 r2 => k G2 H2 σ2 ρ2 (s1.trans s2) r2⟩
  | bk => cases e
  | ct => cases e
  | rt d => cases e
theorem rz_if {c : Expr} {a b : List Stmt} {m : M Bool} {rz : Ro → Option Str} (hc : QT X c m) (ha : PSs X a (tRZ X.K cm E rz)) : PS X (.If c a b pos) (tRZ X.K cm E (xIf m rz)) := by
  refine PS.imp (ps_if hc ha (pss_never (sts := b))) fun D σ H h => ?_
  obtain ⟨R, G, ρ, x, rp, e, k⟩ := h
  unfold xIf at e
  rw [Option.bind_eq_some_iff] at e
  obtain ⟨⟨b1, ρ1⟩, hm, e⟩ := e
  cases b1 with
  | true =>
    rw [if_pos rfl] at e
    refine ⟨R, G, ρ, true, ρ1, rp, hm, fun G1 H1 s1 r1 => ?_⟩
    show (if true = true then _ else _)
    rw [if_pos rfl]
    exact ⟨R, G1, ρ1, x, r1, e, fun G2 H2 σ2 ρ2 s2 r2 => k G2 H2 σ2 ρ2 (s1.trans s2) r2⟩
  | false => cases e
/-- a call that raises -/
theorem rz_call {x : Str} {k : Nat} {f : Addr} {fd : FuncData} {ps : List Str} {F : List D → Option D} {Xf : List D → Option Str} {n : Nat} {e : Expr} {es : List Expr} {m : M (List D)} (tk : Takes X (fun cls d _ H => E cls d H))
    (FO : FnOk X.prog X.w X.K X.mg X.base (L2.CX X.prog X.w) k f fd ps (spE X.K cm F Xf n)) (hr : Room k X.A) (hm : X.mg x = some (.ref f)) (hk : PySem.W.keepIn X.K (.ref f) = true) (hb : Binds X.K fd ps [])
    (ha : QA X (e :: es) m) (hF : ∀ ds d, Xf ds = some d → ds.length = n) (hg : Gl X x := by rfl) (hdb : (x == ("__debug__" : Str)) = false := by decide) (he : starEach (e :: es) X.env = (false, eval e X.env) :: starEach es X.env := by rfl) (hpl : (backTo pos (starEach es X.env)).any (·.1) = false := by rfl) :
    PE X (.Call (.Name x p) (e :: es) [] pos) (fun σ H _ => tRZ X.K cm E (xCall Xf m) { nx := fun _ _ => True, rt := fun _ _ => True } σ H) := by
  refine PE.imp (pe_callS (E := WE fun cls d _ H => E cls d H) FO hr hg hm hk hb (fun σ => passAt tk σ) ha hdb he hpl) fun σ H Q h => ?_
  obtain ⟨R, G, ρ, y, rp, e, kk⟩ := h
  unfold xCall at e
  rw [Option.bind_eq_some_iff] at e
  obtain ⟨⟨ds, ρ1⟩, hmm, e⟩ := e
  refine ⟨R, G, ρ, ds, ρ1, rp, hmm, fun G1 H1 v1 s1 r1 d1 => .inr ⟨?_, G1, ds, y, r1.subG, d1, e, fun G2 H2 g2 => ?_⟩⟩
  · rw [d1.length]; exact hF _ _ e
  · exact kk G2 H2 σ ρ1 (s1.trans g2.gg) (r1.grow g2)
end
theorem rz_or {X : Cx} {cm : Str → Value} {E : XK} {sts : List Stmt} {r1 r2 : Ro → Option Str} (h1 : PSs X sts (tRZ X.K cm E r1)) (h2 : PSs X sts (tRZ X.K cm E r2)) : PSs X sts (tRZ X.K cm E fun ρ => match r1 ρ with
    | some x => some x
    | none => r2 ρ) := ⟨fun pins s σ H D I h => by
  obtain ⟨R, G, ρ, x, rp, e, k⟩ := h
  cases q : r1 ρ with
  | some y =>
    simp only [q] at e
    cases e
    exact h1.run pins s σ H D I ⟨R, G, ρ, _, rp, q, k⟩
  | none =>
    simp only [q] at e
    exact h2.run pins s σ H D I ⟨R, G, ρ, x, rp, e, k⟩⟩
/-! what may leave -/
def RzIn (rz : Ro → Option Str) (l : List Str) : Prop := ∀ ρ z, rz ρ = some z → z ∈ l
theorem xExc_in {y : Str} {l : List Str} (h : y ∈ l) : RzIn (xExc y) l := fun ρ z e => by cases e; exact h
theorem xSeq_in {m : MS} {rz : Ro → Option Str} {l : List Str} (h : RzIn rz l) : RzIn (xSeq m rz) l := fun ρ z e => by
  unfold xSeq at e
  rw [Option.bind_eq_some_iff] at e
  obtain ⟨⟨fl, ρ1⟩, _, e⟩ := e
  cases fl with
  | nx => exact h _ z e
  | bk => cases e
  | ct => cases e
  | rt d => cases e
theorem xIf_in {m : M Bool} {rz : Ro → Option Str} {l : List Str} (h : RzIn rz l) : RzIn (xIf m rz) l := fun ρ z e => by
  unfold xIf at e
  rw [Option.bind_eq_some_iff] at e
  obtain ⟨⟨b, ρ1⟩, _, e⟩ := e
  simp only at e
  split at e
  · exact h _ z e
  · cases e
theorem runR_in {n N : Nat} {rz : Ro → Option Str} {l : List Str} (h : RzIn rz l) : ∀ ds z, runR n N rz ds = some z → z ∈ l := fun ds z e => by
  unfold runR at e
  split at e
  · exact h _ z e
  · cases e
/-- a def in the mode in which it raises -/
theorem fnR {P : Program} {w : World} {K : Fr} {mg : Str → Option Value} {base : Heap} {x qual : Str} {st : Stmt} {f : Addr} {fd : FuncData} {N ps : List Str} {k : Nat} {cm : Str → Value} {rz : Ro → Option Str} (F : Fun K x qual st f fd) (S : FnScope N ps (defScope st))
    (h : ∀ (cdv : Value) (A : Around) (outer : List Env) (s : Shared) (H : Hp) (E : XK), Room k (A.deeper (envOfC qual (defScope st) s.heap.objs.size f cdv)) → PSs (cxOf (L2.CX P w) P w K mg base N qual (defScope st) f cdv A outer s H E) (defBody st) (tRZ K cm E rz)) :
    FnOk P w K mg base (L2.CX P w) (k + 1) f fd ps (spR K cm (runR ps.length N.length rz) ps.length) := by
  refine F.okX S (fun vs H Q E h => h.1) (fun cdv A outer s H vs Q E hr hsp => ⟨_, h cdv A outer s H E hr, ?_⟩)
  obtain ⟨hl, G, ds, y, sG, dd, e, k⟩ := hsp
  unfold runR at e
  split at e
  · rename_i hn
    let R : Hp := fun a => if G a = none then H a else none
    have hR : ∀ a o, R a = some o → G a = none ∧ H a = some o := fun a o q => by
      by_cases z : G a = none
      · exact ⟨z, by have := q; simp only [R, z, if_true] at this; exact this⟩
      · have := q; simp only [R, z, if_false] at this; cases this
    have hRi : ∀ a o, G a = none → H a = some o → R a = some o := fun a o z q => by simp only [R, z, if_true]; exact q
    have rep0 : Rep K R G H (ds.map Sl.dat ++ List.replicate (N.length - ps.length) Sl.un) (L2.start N vs) := by
      refine ⟨?_, fun a o q => (hR a o q).2, sG, fun a o q => (hR a o q).1, fun i s hs => ?_, fun i j c c' p h1 h2 _ _ => ?_⟩
      · simp [L2.start, dd.length, ← hn]
      · by_cases hi : i < ds.length
        · rw [List.getElem?_append_left (by simpa using hi), List.getElem?_map] at hs
          rw [List.getElem?_eq_getElem hi] at hs
          cases hs
          obtain ⟨v, hv, dv⟩ := dd.get (List.getElem?_eq_getElem hi)
          refine ⟨v, ?_, dv⟩
          show (vs.map some ++ _)[i]? = _
          rw [List.getElem?_append_left (by rw [List.length_map, dd.length]; exact hi), List.getElem?_map, hv]
          rfl
        · rw [List.getElem?_append_right (by simpa using hi), List.getElem?_replicate] at hs
          split at hs
          · cases hs; trivial
          · cases hs
      · exfalso
        by_cases hi : i < ds.length
        · rw [List.getElem?_append_left (by simpa using hi), List.getElem?_map, List.getElem?_eq_getElem hi] at h1
          cases h1
        · rw [List.getElem?_append_right (by simpa using hi), List.getElem?_replicate] at h1
          split at h1 <;> cases h1
    refine ⟨R, G, _, y, rep0, e, fun G' H' σ' ρ' s r => k G' H' ⟨fun a o q => ?_, s, r.subG, fun a o q1 q2 => ?_⟩⟩
    · cases z : G a with
      | none => exact r.subR a o (hRi a o z q)
      | some u =>
        have := sG a u z
        rw [q] at this
        cases this
        exact r.subG a _ (s a _ z)
    · cases z : H a with
      | none => rfl
      | some u =>
        have := r.dis a u (hRi a u q1 z)
        rw [q2] at this; cases this
  · cases e
theorem takes_cx {P : Program} {w : World} {K : Fr} {mg : Str → Option Value} {base : Heap} {N : List Str} {qual : Str} {sc : Scope} {f : Addr} {cdv : Value} {A : Around} {outer : List Env} {s : Shared} {H : Hp} {E : XK} :
    Takes (cxOf (L2.CX P w) P w K mg base N qual sc f cdv A outer s H E) (fun cls d _ H => E cls d H) := takes_of rfl rfl rfl rfl
/-- both modes -/
theorem fnE {P : Program} {w : World} {K : Fr} {mg : Str → Option Value} {base : Heap} {f : Addr} {fd : FuncData} {ps : List Str} {k : Nat} {cm : Str → Value} {F : List D → Option D} {X : List D → Option Str} {n : Nat} (h1 : FnOk P w K mg base CX0 k f fd ps (spP K F n)) (h2 : FnOk P w K mg base (L2.CX P w) k f fd ps (spR K cm X n)) :
    FnOk P w K mg base (L2.CX P w) k f fd ps (spE K cm F X n) := by
  refine ⟨fun vs H Q E h => ?_, fun A outer s H args us vs Q E hr he hb hv hs => ?_⟩
  · rcases h with h | h
    · exact h1.len vs H Q E h
    · exact h2.len vs H Q E h
  · rcases hs with h | h
    · refine codeAny_mono (h1.run A outer s H args us vs Q E hr he hb hv h) fun r s' hq => ?_
      cases r with
      | error e => exact False.elim hq
      | ok fl => cases fl <;> exact hq
    · exact h2.run A outer s H args us vs Q E hr he hb hv h
section
variable {X : Cx}
/-- try: f(..) and what follows; except y: suite -/
def sTry1 (F : List D → Option D) (Xf : List D → Option Str) (as : M (List D)) (b hnd : MS) : MS := fun ρ => (as ρ).bind fun p => match Xf p.1 with
  | some _ => hnd p.2
  | none => (F p.1).bind fun _ => b p.2
theorem qs_try1 {x y : Str} {c : Value} {k : Nat} {f : Addr} {fd : FuncData} {ps : List Str} {cm : Str → Value} {F : List D → Option D} {Xf : List D → Option Str} {n : Nat} {e : Expr} {es : List Expr} {m : M (List D)} {rest suite : List Stmt} {b₀ : Stmt} {p cpos epos np hpos pos : Pos} {b hnd : MS} {W V : List Nat}
    (FO : FnOk X.prog X.w X.K X.mg X.base (L2.CX X.prog X.w) k f fd ps (spE X.K cm F Xf n)) (hr : Room k X.A) (hm : X.mg x = some (.ref f)) (hk : PySem.W.keepIn X.K (.ref f) = true) (hb : Binds X.K fd ps [])
    (hn : Names X y c) (hall : ∀ ds z, Xf ds = some z → PySem.W.exmOne X.K (cm z) c = some true)
    (ha : ∀ pn xe, QA (X.tr pn xe) (e :: es) m) (hbd : ∀ pn xe, QSs (X.tr pn xe) W rest b) (hsu : ∀ a pn, QSs (X.suite a pn) V (b₀ :: suite) hnd)
    (hs : X.stack = X.env :: X.outer := by rfl) (hf : X.env.frame = some X.env.locals := by rfl) (hg : Gl X x := by rfl) (hdb : (x == ("__debug__" : Str)) = false := by decide)
    (hst : starEach (e :: es) X.env = (false, eval e X.env) :: starEach es X.env := by rfl) (hpl : (backTo cpos (starEach es X.env)).any (·.1) = false := by rfl) (hsw : swapsWith (.Call (.Name x p) (e :: es) [] cpos) none epos.line X.env = pure false := by rfl)
    (hF : ∀ ds d, F ds = some d → ds.length = n := by exact runF_len) (hX : ∀ ds d, Xf ds = some d → ds.length = n := by exact runR_len) :
    QS X (W ++ V) (.Try (.Expr (.Call (.Name x p) (e :: es) [] cpos) epos :: rest) [.ExceptHandler (some (.Name y np)) none (b₀ :: suite) hpos] [] [] pos) (sTry1 F Xf m b hnd) := by
  have key := ps_try_only (X := X) (x := y) (c := c) (body := .Expr (.Call (.Name x p) (e :: es) [] cpos) epos :: rest) (suite := suite) (b₀ := b₀) (np := np) (pos := pos) (pos' := hpos) (Wout := fun _ _ _ _ => False)
    (tb := fun Wx => tSeq (tDrop (tCallS (spE X.K cm F Xf n) (WE Wx) (tMA X.K m))) (tMS X.K W b)) (ts := fun _ _ _ => tMS X.K V hnd) hs hf hn takes0
    (fun Wx pn xe tk _ => pss_cons (ps_expr (pe_callS (X := X.tr pn xe) (E := WE Wx) FO hr hg hm hk hb (fun σ => passAt tk σ) (ha pn xe) hdb hst hpl) hsw) (hbd pn xe))
    (fun a oe cls d pn _ _ => hsu a _)
  refine PS.imp key fun D σ H h => ?_
  obtain ⟨R, G, ρ, fl, ρ', rp, e, kk⟩ := h
  unfold sTry1 at e
  rw [Option.bind_eq_some_iff] at e
  obtain ⟨⟨ds, ρ1⟩, h1, e⟩ := e
  simp only at e
  refine ⟨R, G, ρ, ds, ρ1, rp, h1, fun G1 H1 v1 s1 r1 d1 => ?_⟩
  cases hx : Xf ds with
  | some z =>
    rw [hx] at e
    refine .inr ⟨by rw [d1.length]; exact hX _ _ hx, G1, ds, z, r1.subG, d1, hx, fun G2 H2 g2 => ?_⟩
    refine ⟨true, hall ds z hx, fun _ a na => ?_, fun z => by cases z⟩
    exact ⟨R, G2, ρ1, fl, ρ', r1.grow g2, e, flQ_mono kk (s1.trans g2.gg) fun σ' z => z.mono fun j hj => List.mem_append_right _ hj⟩
  | none =>
    rw [hx] at e
    simp only at e
    rw [Option.bind_eq_some_iff] at e
    obtain ⟨d, h2, e⟩ := e
    refine .inl ⟨by rw [d1.length]; exact hF _ _ h2, G1, ds, d, r1.subG, d1, h2, fun G2 H2 v2 g2 d2 => ?_⟩
    exact ⟨R, G2, ρ1, fl, ρ', r1.grow g2, e, flQ_mono kk (s1.trans g2.gg) fun σ' z => z.mono fun j hj => List.mem_append_left _ hj⟩
end
end QL
set_option Elab.async false
set_option linter.all false
set_option maxRecDepth 100000
set_option maxHeartbeats 1000000
namespace QL
open PySem PySem.Spec PyProof.Rows L2
section
variable {X : Cx} {pos : Pos} {K : Fr}
/-! ### a, b, c, d = w, x, y, z: a tuple is made and taken apart -/
def sPar4 (i j l m : Nat) (as : M (List Sl)) : MS := fun ρ => (as ρ).bind fun p => match p.1 with
  | [w, x, y, z] => if noScr w && noScr x && noScr y && noScr z && decide (j < p.2.length) && decide (l < p.2.length) && decide (m < p.2.length) then some (.nx, (((p.2.set i w).set j x).set l y).set m z) else none
  | _ => none
theorem qs_par4 {i j l q : Nat} {x y z u : Str} {a b c d : Expr} {m : M (List Sl)} {px py pz pu pt : Pos} {kt k2 pt2} (hN : X.N.Nodup) (ha : QX X [a, b, c, d] m) (hc : X.calm = true := by rfl) (hi : X.N[i]? = some x := by rfl) (hj : X.N[j]? = some y := by rfl) (hl : X.N[l]? = some z := by rfl) (hq : X.N[q]? = some u := by rfl)
    (hij : i ≠ j := by decide) (hil : i ≠ l := by decide) (hiq : i ≠ q := by decide) (hjl : j ≠ l := by decide) (hjq : j ≠ q := by decide) (hlq : l ≠ q := by decide)
    (hx : X.env.scope.names.lookup x = some .local := by rfl) (hy : X.env.scope.names.lookup y = some .local := by rfl) (hz : X.env.scope.names.lookup z = some .local := by rfl) (hu : X.env.scope.names.lookup u = some .local := by rfl)
    (hlx : Loc X.env.scope x := by first | exact Or.inl rfl | exact Or.inr rfl) (hly : Loc X.env.scope y := by first | exact Or.inl rfl | exact Or.inr rfl) (hlz : Loc X.env.scope z := by first | exact Or.inl rfl | exact Or.inr rfl) (hlu : Loc X.env.scope u := by first | exact Or.inl rfl | exact Or.inr rfl)
    (hw : swappedStores [.Tuple [.Name x px, .Name y py, .Name z pz, .Name u pu] kt pt] (.Tuple [a, b, c, d] k2 pt2) X.env = pure none := by rfl)
    (hs : swapsWithSole [.Tuple [.Name x px, .Name y py, .Name z pz, .Name u pu] kt pt] (.Tuple [a, b, c, d] k2 pt2) pos.line X.env = pure false := by rfl) :
    QS X [i, j, l, q] (.Assign [.Tuple [.Name x px, .Name y py, .Name z pz, .Name u pu] kt pt] (.Tuple [a, b, c, d] k2 pt2) pos) (sPar4 i j l q m) := by
  refine PS.imp (ps_asg (pe_tup ha) (pg_tup hc (pgs_cons (pg_name hN hi hlx (.inr hx)) (pgs_cons (pg_name hN hj hly (.inr hy)) (pgs_cons (pg_name hN hl hlz (.inr hz)) (pgs_cons (pg_name hN hq hlu (.inr hu)) pgs_nil))))) hs hw) fun E σ H h => ?_
  obtain ⟨R, G, ρ, f, ρ', rp, e, k⟩ := h
  unfold sPar4 at e
  rw [Option.bind_eq_some_iff] at e
  obtain ⟨⟨ss, ρ1⟩, h1, e⟩ := e
  refine ⟨R, G, ρ, ss, ρ1, rp, h1, fun G1 H1 vs s1 l1 r1 => ?_⟩
  match ss, vs, l1, e with
  | [s, t, o, n], [v, w, p, g], _, e =>
    simp only at e
    split at e
    · rename_i hb
      cases e
      simp only [Bool.and_eq_true, decide_eq_true_eq] at hb
      obtain ⟨⟨⟨⟨⟨⟨n1, n2⟩, n3⟩, n4⟩, hjl'⟩, hll'⟩, hql'⟩ := hb
      have hl := r1.len
      have hlen : ρ1.length = σ.length := by simp at hl; exact hl
      refine ⟨(show 4 ≤ sizeLine by decide), fun ad had => ?_⟩
      refine ⟨ad, _, rfl, SqT.of upd_same, rfl, _, _, rfl, _, _, rfl, _, _, rfl, _, _, rfl, rfl, ?_⟩
      have r1' := r1.grow (Gr.junk (o := .tup [v, w, p, g]) r1.subG had)
      refine k G1 _ _ s1 ?_ (fun y hy => by rw [List.getElem?_set_ne fun z => hy (by simp [z]), List.getElem?_set_ne fun z => hy (by simp [z]), List.getElem?_set_ne fun z => hy (by simp [z]), List.getElem?_set_ne fun z => hy (by simp [z])])
      have r2 : Rep X.K R G1 (upd H1 ad (.tup [v, w, p, g])) ((((ρ1 ++ [s]) ++ [t]) ++ [o]) ++ [n]) ((((σ ++ [some v]) ++ [some w]) ++ [some p]) ++ [some g]) := by simpa using r1'
      have r3 := Rep.move (by simp [hlen]) (noScr_ne n4) r2 q
      rw [List.set_append_left _ _ (by first | omega | (simp; omega)), List.set_append_left _ _ (by first | omega | (simp; omega)), List.set_append_left _ _ (by first | omega | (simp; omega)), List.set_append_left _ _ (by first | omega | (simp; omega)), List.set_append_left _ _ (by first | omega | (simp; omega)), List.set_append_left _ _ (by first | omega | (simp; omega))] at r3
      have r4 := Rep.move (by simp [hlen]) (noScr_ne n3) r3 l
      rw [List.set_append_left _ _ (by first | omega | (simp; omega)), List.set_append_left _ _ (by first | omega | (simp; omega)), List.set_append_left _ _ (by first | omega | (simp; omega)), List.set_append_left _ _ (by first | omega | (simp; omega))] at r4
      have r5 := Rep.move (by simp [hlen]) (noScr_ne n2) r4 j
      rw [List.set_append_left _ _ (by first | omega | (simp; omega)), List.set_append_left _ _ (by first | omega | (simp; omega))] at r5
      have r6 := Rep.move (by simp [hlen]) (noScr_ne n1) r5 i
      have c1 : (((ρ1.set i s).set j t).set l o).set q n = (((ρ1.set q n).set l o).set j t).set i s := by
        rw [List.set_comm _ _ hij, List.set_comm _ _ hil, List.set_comm _ _ hiq, List.set_comm _ _ hjl, List.set_comm _ _ hjq, List.set_comm _ _ hlq]
      have c2 : (((σ.set i (some v)).set j (some w)).set l (some p)).set q (some g) = (((σ.set q (some g)).set l (some p)).set j (some w)).set i (some v) := by
        rw [List.set_comm _ _ hij, List.set_comm _ _ hil, List.set_comm _ _ hiq, List.set_comm _ _ hjl, List.set_comm _ _ hjq, List.set_comm _ _ hlq]
      rw [c1, c2]
      exact r6
    · cases e
  | [], _, _, e => cases e
  | [_], _, _, e => cases e
  | [_, _], _, _, e => cases e
  | [_, _, _], _, _, e => cases e
  | _ :: _ :: _ :: _ :: _ :: _, _, _, e => cases e
/-! ### a tuple times one is itself -/
theorem tuple_mul1 (l : Addr) (items : Array Value) (n : Nat) (dd : Option Addr) (sl : Array (Option Value)) (u : Tok) :
    Meets (Builtin.«tuple.__mul__» ⟨[.ref l, .int 1 u], []⟩) (fun _ R s => s.heap.get? l = some { cls := .type "tuple", dict := dd, data := .seq items n, slots := sl } ∧
      R (.ok (.ret (Value.ref l))) s) :=
  .of_wp fun prog w A R s h => by
    obtain ⟨hp, g, d, tk, os⟩ := s
    obtain ⟨hl, h⟩ := h
    have f1 := AutoSeq1.idx_int
    wp_walk using wpAny_loadPart' hl
    repeat (first
      | (refine wpAny_ite_false (by decide) ?_; wp_walk using wpAny_loadPart' hl)
      | (refine wpAny_ite_true (by simp) ?_; wp_walk using wpAny_loadPart' hl))
    exact ⟨_, rfl, h⟩
def rRepT1 (K : PySem.W.Frag) : R2 := fun x y H Q => ∃ l xs, x = .ref l ∧ y = .int 1 ∧ SqT K H l xs ∧ Q (.ref l) H
theorem op_repT1 : OpR X (binaryOp .Mult) (rRepT1 X.K) := by
  intro pins s σ H x y v u Q I rx ry h
  obtain ⟨l, xs, rfl, rfl, hT, q⟩ := h
  cases rx
  obtain ⟨t, rfl⟩ := ry
  obtain ⟨its, r, ⟨⟨cls, dd, data, sl⟩, ho, hc, n, hd⟩, hs⟩ := I.tuple hT
  simp only at hc hd
  subst hc hd
  refine wpAny_binaryOp_repeat_ref (T := "tuple") (U := "int") (by decide) ⟨_, ho, rfl⟩ (fun s' => typeIs_int s' 1 t) noFill_tuple_mul F.fills_int_mul F.slot_int_rmul repeat_tuple F.slot_int_index.lookup
    (call_meets F.slot_int_rmul (typeIs_int s 1 t) F.entry_int_rmul (F.args_int_rmul_2 _ _) (int_rmul_tuple 1 t l its.toArray n dd sl)
      ⟨ho, rfl, ⟨_, ho, rfl⟩, call_meets F.slot_tuple_mul ⟨_, ho, rfl⟩ F.entry_tuple_mul (F.args_tuple_mul_2 _ _) (tuple_mul1 l its.toArray n dd sl t) ⟨ho, ?_⟩⟩)
  exact ⟨.ref l, H, I, rfl, q⟩
/-- a tuple times a number -/
def dMulT : D → D → Option D
  | .tuple a, .int k => if a ≠ [] ∧ 1 ≤ k ∧ k ≤ 1000 ∧ a.length ≤ 1000 then some (.tuple (List.replicate k.toNat a).flatten) else none
  | _, _ => none
abbrev rMulT (K : Fr) : R2 := fun x y H Q => rRepT1 K x y H Q ∨ rRepT K x y H Q
theorem op_mulT : OpR X (binaryOp .Mult) (rMulT X.K) := op_repT1.or op_repT
theorem d_mulT : OpD K (rMulT K) dMulT := by
  intro G H x y dx dy d Q s hx hy e k
  unfold dMulT at e
  split at e
  · split at e
    · rename_i a i hl
      cases e
      cases hx with
      | tup h1 a1 =>
        cases hy
        by_cases h1' : i = 1
        · subst h1'
          refine .inl ⟨_, _, rfl, rfl, SqT_mono s h1, k _ _ _ (Gr.refl s) ?_⟩
          simpa using Dq.tup h1 a1
        · refine .inr ⟨_, _, _, rfl, rfl, SqT_mono s h1, fun z => ?_, by omega, hl.2.2.1, by rw [a1.length]; exact hl.2.2.2, fun p hp => k _ _ _ (Gr.new s hp) ?_⟩
          · subst z; cases a1; exact hl.1 rfl
          · exact .tup (SqT.of upd_same) (DqAll_mono (Gr.new s hp).gg (a1.rep _))
    · cases e
  · cases e
theorem qe_mulT {a b : Expr} {m n : M D} (ha : QE X a m) (hb : QE X b n) : QE X (.BinOp a .Mult b pos) (eOp2 dMulT m n) := qe_op op_mulT d_mulT ha hb
end
end QL
set_option Elab.async false
set_option linter.all false
set_option maxRecDepth 100000
set_option maxHeartbeats 1000000
namespace QL
open PySem PySem.Spec PyProof.Rows RZ PySem.W PyProof.V PySem.Calls
/-! ### list(zip(a, b)): the tuples handed out stay alive in the list -/
abbrev IsZipO (h : Heap) (z TI TO T : Addr) (f : Bool) : Prop := h.get? z = some { cls := .type "zip", dict := none, data := .fields #[rawInt T, .bool f, .bool false, .ref TI, .ref TO], slots := #[] }
section
variable {prog : Program} {w : World} {A : Around} {E : Value → Shared → Prop} {s : Shared} {z TI TO T i1 i2 : Addr} {f : Bool} {oT : Obj} {fp1 fp2 : List Addr} {n1 n2 i : Nat} {P1 P2 : Nat → Value → Prop} {St1 St2 : Nat → Heap → Prop}
theorem zl_free (hz : IsZipO s.heap z TI TO T f) (hT : s.heap.get? T = some oT) {Q : Bool → Shared → Prop} (h : ∀ h', IsZipO h' z TI TO T true → Heap.SameBut z s.heap h' → Q false { s with heap := h' }) :
    wpAny (model prog w) A (Builtin.SmallTypes.ownedTupleIsFree (.ref z)) Q E s := by
  unfold Builtin.SmallTypes.ownedTupleIsFree
  refine wpAny_bind (wpAny_field hz rfl (x := rawInt T) rfl ?_)
  show wpAny _ _ (loadIfAlive ((T : Int).toNat) >>= _) _ _ _
  rw [Int.toNat_natCast]
  refine wpAny_bind (kdx_alive hT ?_)
  simp only [Option.isNone_some, Bool.false_eq_true, if_false]
  refine wpAny_bind (wpAny_field hz rfl (x := .bool f) rfl ?_)
  cases f with
  | true =>
    rw [if_neg (show ¬ ((Value.bool true != Value.bool true) = true) from Bool.false_ne_true)]
    exact wpAny_pure (h _ hz (Heap.SameBut.refl _ _))
  | false =>
    rw [if_pos (show (Value.bool false != Value.bool true) = true from rfl)]
    refine wpAny_bind (wpAny_setField_rec hz (by simp) fun h₃ he₃ hs₃ => ?_)
    exact wpAny_pure (h h₃ he₃ hs₃)
theorem zl_next_item {Q : Value → Shared → Prop} (S : ZipSep2 z TI TO i1 i2 fp1 fp2) (D1 : Draws prog w A i1 fp1 n1 P1 St1) (D2 : Draws prog w A i2 fp2 n2 P2 St2)
    (hz : IsZipO s.heap z TI TO T f) (hT : s.heap.get? T = some oT) (hTI : IsTupOf2 s.heap TI (.ref i1) (.ref i2)) (st1 : St1 i s.heap) (st2 : St2 i s.heap) (hlt1 : i < n1) (hlt2 : i < n2)
    (hQ : ∀ x1 x2 h' tk, P1 i x1 → P2 i x2 → IsZipO h' z TI TO T true → St1 (i + 1) h' → St2 (i + 1) h' → IsTupOf2 h' s.heap.objs.size x1 x2 → h'.objs.size = s.heap.objs.size + 1 →
      (∀ c o, c ≠ z → c ≠ i1 → c ≠ i2 → s.heap.get? c = some o → h'.get? c = some o) → Q (.ref s.heap.objs.size) { s with heap := h', toks := tk }) :
    wpAny (model prog w) A (Builtin.«zip.__next__» ⟨[.ref z], []⟩) (fun fin s' => ∃ v, fin = .done (.ret v) ∧ Q v s') E s := by
  obtain ⟨hp, g, d, tk0, os⟩ := s
  show wpAny _ _ (field (.ref z) 2 >>= _) _ _ _
  refine wpAny_bind (wpAny_field hz rfl (x := .bool false) rfl ?_)
  show wpAny _ _ (field (.ref z) 3 >>= _) _ _ _
  refine wpAny_bind (wpAny_field hz rfl (x := .ref TI) rfl ?_)
  refine wpAny_bind (wpAny_seqItems hTI rfl ?_)
  show wpAny _ _ (Builtin.SmallTypes.ownedTupleIsFree (.ref z) >>= _) _ _ _
  refine wpAny_bind (zl_free hz hT fun g0 hz0 hs0 => ?_)
  replace hs0 : Heap.SameBut z hp g0 := hs0
  simp only [Bool.false_eq_true, if_false]
  refine wpAny_bind ?_
  simp only [List.forIn_toArray, List.forIn_cons, List.forIn_nil]
  refine wpAny_bind (wpAny_bind (wpAny_holding ?_))
  show wpAny _ _ (Builtin.SmallTypes.nextOf (.ref i1) >>= _) _ _ ⟨g0, g, d, tk0, os⟩
  refine wpAny_bind (D1.item i _ _ _ hlt1 (D1.over st1 hs0 S.zf1) fun x1 p1 tk1 hx1 sn1 hp1 => wpAny_pure ?_)
  replace hp1 : Heap.SameBut i1 g0 p1 := hp1
  refine wpAny_pure ?_
  refine wpAny_bind (wpAny_bind (wpAny_holding ?_))
  show wpAny _ _ (Builtin.SmallTypes.nextOf (.ref i2) >>= _) _ _ ⟨p1, g, d, tk1, os⟩
  refine wpAny_bind (D2.item i _ _ _ hlt2 (D2.over (D2.over st2 hs0 S.zf2) hp1 S.sep1_2) fun x2 p2 tk2 hx2 sn2 hp2 => wpAny_pure ?_)
  replace hp2 : Heap.SameBut i2 p1 p2 := hp2
  refine wpAny_pure (wpAny_pure ?_)
  refine wpAny_bind (wpAny_newTuple (hsz := by show 2 ≤ sizeLine; decide) ?_)
  have hsz : p2.objs.size = hp.objs.size := by rw [hp2.1, hp1.1, hs0.1]
  have hkk : ∀ c o, c ≠ z → c ≠ i1 → c ≠ i2 → hp.get? c = some o → p2.get? c = some o := fun c o cz c1 c2 e => hp2.extBut _ _ c2 (hp1.extBut _ _ c1 (hs0.extBut _ _ cz e))
  refine wpAny_pure ⟨_, rfl, ?_⟩
  show Q (.ref p2.objs.size) ⟨p2.push { cls := .type "tuple", data := .seq #[x1, x2] }, g, d, tk2, os⟩
  have hz2 : IsZipO p2 z TI TO T true := hp2.extBut _ _ S.zi2 (hp1.extBut _ _ S.zi1 hz0)
  have hnew : IsTupOf2 (p2.push { cls := .type "tuple", data := .seq #[x1, x2] }) p2.objs.size x1 x2 := Heap.get?_push_size _ rfl
  have push : ∀ c o, p2.get? c = some o → (p2.push { cls := .type "tuple", data := .seq #[x1, x2] }).get? c = some o := fun c o e => Heap.get?_push_of_some _ e
  rw [hsz] at hnew ⊢
  exact hQ x1 x2 _ tk2 hx1 hx2 (push _ _ hz2) (D1.frame _ _ _ (D1.over sn1 hp2 S.sep2_1) fun b _ o e => push b o e) (D2.frame _ _ _ sn2 fun b _ o e => push b o e) hnew (by rw [Heap.size_push, hsz]) fun c o cz c1 c2 e => push c o (hkk c o cz c1 c2 e)
theorem zl_next_end {Q : Fin → Shared → Prop} (S : ZipSep2 z TI TO i1 i2 fp1 fp2) (D1 : Draws prog w A i1 fp1 n1 P1 St1) (D2 : Draws prog w A i2 fp2 n2 P2 St2)
    (hz : IsZipO s.heap z TI TO T f) (hT : s.heap.get? T = some oT) (hTI : IsTupOf2 s.heap TI (.ref i1) (.ref i2)) (st1 : St1 i s.heap) (st2 : St2 i s.heap) (hle1 : i ≤ n1) (hle2 : i ≤ n2) (hend : i = n1 ∨ i = n2)
    (hE : ∀ h' tk e, (∀ c o, c ≠ z → c ≠ i1 → c ≠ i2 → s.heap.get? c = some o → h'.get? c = some o) → (∃ o, h'.get? e = some o ∧ o.cls = .type "StopIteration") → E (.ref e) { s with heap := h', toks := tk }) :
    wpAny (model prog w) A (Builtin.«zip.__next__» ⟨[.ref z], []⟩) Q E s := by
  obtain ⟨hp, g, d, tk0, os⟩ := s
  show wpAny _ _ (field (.ref z) 2 >>= _) _ _ _
  refine wpAny_bind (wpAny_field hz rfl (x := .bool false) rfl ?_)
  show wpAny _ _ (field (.ref z) 3 >>= _) _ _ _
  refine wpAny_bind (wpAny_field hz rfl (x := .ref TI) rfl ?_)
  refine wpAny_bind (wpAny_seqItems hTI rfl ?_)
  show wpAny _ _ (Builtin.SmallTypes.ownedTupleIsFree (.ref z) >>= _) _ _ _
  refine wpAny_bind (zl_free hz hT fun g0 hz0 hs0 => ?_)
  replace hs0 : Heap.SameBut z hp g0 := hs0
  simp only [Bool.false_eq_true, if_false]
  refine wpAny_bind ?_
  simp only [List.forIn_toArray, List.forIn_cons, List.forIn_nil]
  refine wpAny_bind (wpAny_bind (wpAny_holding ?_))
  show wpAny _ _ (Builtin.SmallTypes.nextOf (.ref i1) >>= _) _ _ ⟨g0, g, d, tk0, os⟩
  by_cases hlt1 : i < n1
  · refine wpAny_bind (D1.item i _ _ _ hlt1 (D1.over st1 hs0 S.zf1) fun x1 p1 tk1 hx1 sn1 hp1 => wpAny_pure ?_)
    replace hp1 : Heap.SameBut i1 g0 p1 := hp1
    refine wpAny_pure ?_
    refine wpAny_bind (wpAny_bind (wpAny_holding ?_))
    show wpAny _ _ (Builtin.SmallTypes.nextOf (.ref i2) >>= _) _ _ ⟨p1, g, d, tk1, os⟩
    have hi2 : i = n2 := by omega
    refine wpAny_bind (D2.done ⟨p1, g, d, tk1, os⟩ _ _ (by rw [← hi2]; exact D2.over (D2.over st2 hs0 S.zf2) hp1 S.sep1_2) fun q e hq he => ?_)
    replace hq : Heap.ExtBut i2 p1 q := hq
    exact hE q tk1 e (fun c o cz c1 c2 x => hq _ _ c2 (hp1.extBut _ _ c1 (hs0.extBut _ _ cz x))) he
  · have hi1 : i = n1 := by omega
    refine wpAny_bind (D1.done ⟨g0, g, d, tk0, os⟩ _ _ (by rw [← hi1]; exact D1.over st1 hs0 S.zf1) fun q e hq he => ?_)
    replace hq : Heap.ExtBut i1 g0 q := hq
    exact hE q tk0 e (fun c o cz c1 c2 x => hq _ _ c1 (hs0.extBut _ _ cz x)) he
theorem zl_item {Q : Option Value → Shared → Prop} (S : ZipSep2 z TI TO i1 i2 fp1 fp2) (D1 : Draws prog w A.in1 i1 fp1 n1 P1 St1) (D2 : Draws prog w A.in1 i2 fp2 n2 P2 St2)
    (hz : IsZipO s.heap z TI TO T f) (hT : s.heap.get? T = some oT) (hTI : IsTupOf2 s.heap TI (.ref i1) (.ref i2)) (st1 : St1 i s.heap) (st2 : St2 i s.heap) (hlt1 : i < n1) (hlt2 : i < n2)
    (hQ : ∀ x1 x2 h' tk, P1 i x1 → P2 i x2 → IsZipO h' z TI TO T true → St1 (i + 1) h' → St2 (i + 1) h' → IsTupOf2 h' s.heap.objs.size x1 x2 → h'.objs.size = s.heap.objs.size + 1 →
      (∀ c o, c ≠ z → c ≠ i1 → c ≠ i2 → s.heap.get? c = some o → h'.get? c = some o) → Q (some (.ref s.heap.objs.size)) { s with heap := h', toks := tk }) :
    wpAny (model prog w) A (pyNext (.ref z)) Q E s := by
  have hTy : s.TypeIs (.ref z) "zip" := ⟨_, hz, rfl⟩
  unfold pyNext
  exact wpAny_bind (wpAny_attempt (wpAny_callSpecial?_slot (name := Str.ofString "__next__") hTy F.slot_zip_next
    (wpAny_call_entry F.slot_zip_next hTy F.entry_zip_next
      (zl_next_item S D1 D2 hz hT hTI st1 st2 hlt1 hlt2 fun x1 x2 h' tk y1 y2 b1 d1 d2 b5 b6 b7 => wpAny_pure (hQ x1 x2 h' tk y1 y2 b1 d1 d2 b5 b6 b7)) (F.args_zip_next_1 _))))
theorem zl_end {Q : Option Value → Shared → Prop} (S : ZipSep2 z TI TO i1 i2 fp1 fp2) (D1 : Draws prog w A.in1 i1 fp1 n1 P1 St1) (D2 : Draws prog w A.in1 i2 fp2 n2 P2 St2)
    (hz : IsZipO s.heap z TI TO T f) (hT : s.heap.get? T = some oT) (hTI : IsTupOf2 s.heap TI (.ref i1) (.ref i2)) (st1 : St1 i s.heap) (st2 : St2 i s.heap) (hle1 : i ≤ n1) (hle2 : i ≤ n2) (hend : i = n1 ∨ i = n2)
    (hQ : ∀ h' tk, (∀ c o, c ≠ z → c ≠ i1 → c ≠ i2 → s.heap.get? c = some o → h'.get? c = some o) → Q none { s with heap := h', toks := tk }) : wpAny (model prog w) A (pyNext (.ref z)) Q E s := by
  have hTy : s.TypeIs (.ref z) "zip" := ⟨_, hz, rfl⟩
  unfold pyNext
  refine wpAny_bind (wpAny_attempt (wpAny_callSpecial?_slot (name := Str.ofString "__next__") hTy F.slot_zip_next
    (wpAny_call_entry F.slot_zip_next hTy F.entry_zip_next (zl_next_end S D1 D2 hz hT hTI st1 st2 hle1 hle2 hend fun h' tk e hk he => ?_) (F.args_zip_next_1 _))))
  obtain ⟨o, ho, hc⟩ := he
  refine wpAny_bind (wpAny_isInstance (T := "StopIteration") (b := true) ⟨o, ho, hc⟩ isSubtype_stop ?_)
  exact wpAny_pure (hQ _ _ hk)
/-- the zip's state while its tuples go into the list S -/
def ZlSt (h : Heap) (z TI TO i1 i2 S : Addr) : Prop := IsTupOf2 h TI (.ref i1) (.ref i2) ∧ ((IsZip h z TI TO .none ∧ ∃ a1 a2, IsTupOf2 h TO a1 a2) ∨ ∃ T f oT, IsZipO h z TI TO T f ∧ h.get? T = some oT ∧ T ≠ z ∧ T ≠ TO ∧ T ≠ i1 ∧ T ≠ i2 ∧ T ≠ S)
theorem ZlSt.keep {h h' : Heap} {S : Addr} (x : ZlSt h z TI TO i1 i2 S) (hk : ∀ b o, b ≠ S → h.get? b = some o → h'.get? b = some o) (h1 : z ≠ S) (h2 : TI ≠ S) (h3 : TO ≠ S) : ZlSt h' z TI TO i1 i2 S := by
  obtain ⟨a, b⟩ := x
  refine ⟨hk _ _ h2 a, ?_⟩
  rcases b with ⟨b, a1, a2, c⟩ | ⟨T, f, oT, b, c, d⟩
  · exact .inl ⟨hk _ _ h1 b, a1, a2, hk _ _ h3 c⟩
  · exact .inr ⟨T, f, oT, hk _ _ h1 b, hk _ _ d.2.2.2.2 c, d⟩
theorem zl_step {S : Addr} {Q : Option Value → Shared → Prop} (Z : ZipSep2 z TI TO i1 i2 fp1 fp2) (D1 : Draws prog w A.in1 i1 fp1 n1 P1 St1) (D2 : Draws prog w A.in1 i2 fp2 n2 P2 St2)
    (hst : ZlSt s.heap z TI TO i1 i2 S) (hS : S < s.heap.objs.size) (hi1 : i1 < s.heap.objs.size) (hi2 : i2 < s.heap.objs.size) (st1 : St1 i s.heap) (st2 : St2 i s.heap) (hlt1 : i < n1) (hlt2 : i < n2)
    (hQ : ∀ x1 x2 h' tk, P1 i x1 → P2 i x2 → ZlSt h' z TI TO i1 i2 S → St1 (i + 1) h' → St2 (i + 1) h' → IsTupOf2 h' s.heap.objs.size x1 x2 → h'.objs.size = s.heap.objs.size + 1 →
      (∀ c o, c ≠ z → c ≠ TO → c ≠ i1 → c ≠ i2 → s.heap.get? c = some o → h'.get? c = some o) → Q (some (.ref s.heap.objs.size)) { s with heap := h', toks := tk }) :
    wpAny (model prog w) A (pyNext (.ref z)) Q E s := by
  obtain ⟨hTI, b⟩ := hst
  rcases b with ⟨hz, a1, a2, hTO⟩ | ⟨T, f, oT, hz, hT, t1, t2, t3, t4, t5⟩
  · have hzl : z < s.heap.objs.size := Heap.lt_size hz
    have hTl : TO < s.heap.objs.size := Heap.lt_size hTO
    exact wpAny_pyNext_zipD2_item Z D1 D2 hz hTI hTO st1 st2 hlt1 hlt2 fun x1 x2 h' tk p1 p2 k1 k2 k3 k4 k5 k6 k7 =>
      hQ x1 x2 h' tk p1 p2 ⟨k7 _ _ Z.TIz Z.TITO Z.TIi1 Z.TIi2 hTI, .inr ⟨_, false, _, k1, k5, Nat.ne_of_gt hzl, Nat.ne_of_gt hTl, Nat.ne_of_gt hi1, Nat.ne_of_gt hi2, Nat.ne_of_gt hS⟩⟩ k3 k4 k5 k6 k7
  · exact zl_item Z D1 D2 hz hT hTI st1 st2 hlt1 hlt2 fun x1 x2 h' tk p1 p2 k1 k3 k4 k5 k6 k7 =>
      hQ x1 x2 h' tk p1 p2 ⟨k7 _ _ Z.TIz Z.TIi1 Z.TIi2 hTI, .inr ⟨T, true, oT, k1, k7 _ _ t1 t3 t4 hT, t1, t2, t3, t4, t5⟩⟩ k3 k4 k5 k6 fun c o c1 _ c3 c4 e => k7 c o c1 c3 c4 e
theorem zl_stop {S : Addr} {Q : Option Value → Shared → Prop} (Z : ZipSep2 z TI TO i1 i2 fp1 fp2) (D1 : Draws prog w A.in1 i1 fp1 n1 P1 St1) (D2 : Draws prog w A.in1 i2 fp2 n2 P2 St2)
    (hst : ZlSt s.heap z TI TO i1 i2 S) (st1 : St1 i s.heap) (st2 : St2 i s.heap) (hle1 : i ≤ n1) (hle2 : i ≤ n2) (hend : i = n1 ∨ i = n2)
    (hQ : ∀ h' tk, (∀ c o, c ≠ z → c ≠ TO → c ≠ i1 → c ≠ i2 → s.heap.get? c = some o → h'.get? c = some o) → Q none { s with heap := h', toks := tk }) : wpAny (model prog w) A (pyNext (.ref z)) Q E s := by
  obtain ⟨hTI, b⟩ := hst
  rcases b with ⟨hz, a1, a2, hTO⟩ | ⟨T, f, oT, hz, hT, _⟩
  · exact wpAny_pyNext_zipD2_end Z D1 D2 hz hTI hTO st1 st2 hle1 hle2 hend hQ
  · exact zl_end Z D1 D2 hz hT hTI st1 st2 hle1 hle2 hend fun h' tk k => hQ h' tk fun c o c1 _ c3 c4 e => k c o c1 c3 c4 e
end
theorem zip_no_len : typeLookup (.type "zip") "__len__" = pure none := by rw [typeLookup_type, builtinLookup_eq_fast]; kernel_rfl
theorem zip_no_hint : typeLookup (.type "zip") "__length_hint__" = pure none := by rw [typeLookup_type, builtinLookup_eq_fast]; kernel_rfl
structure ZlG (P1 P2 : Nat → Value → Prop) (lo : Addr) (h : Heap) (as : List Addr) : Prop where
  rise : as.Pairwise (· < ·)
  above : ∀ a ∈ as, lo < a
  pairs : ∀ (j : Nat) (a : Addr), as[j]? = some a → ∃ x1 x2, P1 j x1 ∧ P2 j x2 ∧ h.get? a = some { cls := .type "tuple", data := .seq #[x1, x2] }
section
variable {prog : Program} {w : World} {A : Around} {E : Value → Shared → Prop} {s : Shared} {z TI TO i1 i2 : Addr} {fp1 fp2 : List Addr} {n1 n2 : Nat} {P1 P2 : Nat → Value → Prop} {St1 St2 : Nat → Heap → Prop} {R : Result → Shared → Prop}
theorem ZlG.there {lo : Addr} {h : Heap} {as : List Addr} (g : ZlG P1 P2 lo h as) {a : Addr} (ha : a ∈ as) : a < h.objs.size := by
  obtain ⟨j, hj⟩ := List.mem_iff_getElem?.mp ha
  obtain ⟨_, _, _, _, e⟩ := g.pairs j a hj
  exact Heap.lt_size e
theorem zl_loop {S : Addr} {m : Nat} (Z : ZipSep2 z TI TO i1 i2 fp1 fp2) (D1 : Draws prog w A.in1.in1 i1 fp1 n1 P1 St1) (D2 : Draws prog w A.in1.in1 i2 fp2 n2 P2 St2) (m1 : m ≤ n1) (m2 : m ≤ n2) (m3 : m = n1 ∨ m = n2)
    (lz : z < S) (lTI : TI < S) (lTO : TO < S) (l1 : i1 < S) (l2 : i2 < S) (f1 : S ∉ fp1) (f2 : S ∉ fp2) (hn : m ≤ sizeLine) (res : Value) {h₁ : Heap}
    (hR : ∀ h' tk acc c as, (∀ b o, b ≠ S → b ≠ z → b ≠ TO → b ≠ i1 → b ≠ i2 → h₁.get? b = some o → h'.get? b = some o) → h'.get? S = some { cls := .type "list", dict := none, data := .seq acc c, slots := #[] } → as.length = m → ZlG P1 P2 S h' as →
      acc.toList = as.map Value.ref → R (.ok (.ret res)) { s with heap := h', toks := tk }) :
    ∀ (k i : Nat) (h : Heap) (tk c : Nat) (acc : Array Value) (as : List Addr), m - i = k → i ≤ m → ZlSt h z TI TO i1 i2 S → St1 i h → St2 i h → (∀ b o, b ≠ S → b ≠ z → b ≠ TO → b ≠ i1 → b ≠ i2 → h₁.get? b = some o → h.get? b = some o) →
      h.get? S = some { cls := .type "list", dict := none, data := .seq acc c, slots := #[] } → acc.toList = as.map Value.ref → as.length = i → ZlG P1 P2 S h as →
      codeAny (model prog w) A (.builtin "list.extend.loop" ⟨[.ref S, .ref z, res], []⟩) R { s with heap := h, toks := tk } := by
  intro k
  induction k with
  | zero =>
    intro i h tk c acc as hk hi hst st1 st2 hkeep hS hacc hal hG
    have him : i = m := by omega
    subst him
    refine codeAny_builtin PySem.F.entry_extend_loop ?_
    rw [Around.under_plainId PySem.F.plain_extend_loop _]
    show wpAny _ A.in1 (pyNext (.ref z) >>= _) _ _ _
    refine wpAny_bind (zl_stop (s := { s with heap := h, toks := tk }) (A := A.in1) Z D1 D2 hst st1 st2 m1 m2 m3 fun h' tk' he => ?_)
    refine wpAny_pure (hR h' tk' acc c as (fun b o h1 h2 h3 h4 h5 e => he b o h2 h3 h4 h5 (hkeep b o h1 h2 h3 h4 h5 e)) (he S _ (Nat.ne_of_gt lz) (Nat.ne_of_gt lTO) (Nat.ne_of_gt l1) (Nat.ne_of_gt l2) hS) hal ⟨hG.rise, hG.above, fun j a hj => ?_⟩ hacc)
    obtain ⟨x1, x2, e1, e2, e3⟩ := hG.pairs j a hj
    have la := hG.above a (List.mem_of_getElem? hj)
    exact ⟨x1, x2, e1, e2, he a _ (Nat.ne_of_gt (Nat.lt_trans lz la)) (Nat.ne_of_gt (Nat.lt_trans lTO la)) (Nat.ne_of_gt (Nat.lt_trans l1 la)) (Nat.ne_of_gt (Nat.lt_trans l2 la)) e3⟩
  | succ k ih =>
    intro i h tk c acc as hk hi hst st1 st2 hkeep hS hacc hal hG
    have hlt : i < m := by omega
    have hsz : acc.size = i := by rw [← Array.length_toList, hacc, List.length_map, hal]
    have hSl : S < h.objs.size := Heap.lt_size hS
    refine codeAny_builtin PySem.F.entry_extend_loop ?_
    rw [Around.under_plainId PySem.F.plain_extend_loop _]
    show wpAny _ A.in1 (pyNext (.ref z) >>= _) _ _ _
    refine wpAny_bind (zl_step (s := { s with heap := h, toks := tk }) (S := S) (A := A.in1) Z D1 D2 hst hSl (Nat.lt_trans l1 hSl) (Nat.lt_trans l2 hSl) st1 st2 (by omega) (by omega) fun x1 x2 h' tk' p1 p2 hst' s1' s2' ht hz hkp => ?_)
    dsimp only at ht hz hkp ⊢
    have hS' := hkp S _ (Nat.ne_of_gt lz) (Nat.ne_of_gt lTO) (Nat.ne_of_gt l1) (Nat.ne_of_gt l2) hS
    have up : ∀ b o, b ≠ S → h'.get? b = some o → (h'.update S (Obj.mapSeq (·.push (Value.ref h.objs.size)))).get? b = some o := fun b o hb e => (Heap.get?_update_other _ _ (Ne.symm hb)).trans e
    show wpAny _ A.in1 (updateSeq S (·.push (Value.ref h.objs.size)) >>= _) _ _ _
    refine wpAny_bind ?_
    refine wpAny_updateSeq hS' rfl (wpAny_pure ⟨plainId_quiet PySem.F.plain_extend_loop _, ih (i + 1) _ tk' _ (acc.push (Value.ref h.objs.size)) (as ++ [h.objs.size]) (by omega) hlt (hst'.keep up (Nat.ne_of_lt lz) (Nat.ne_of_lt lTI) (Nat.ne_of_lt lTO))
      (D1.frame _ _ _ s1' fun b hb o e => up b o (fun q => f1 (q ▸ hb)) e) (D2.frame _ _ _ s2' fun b hb o e => up b o (fun q => f2 (q ▸ hb)) e)
      (fun b o h1 h2 h3 h4 h5 e => up b o h1 (hkp b o h2 h3 h4 h5 (hkeep b o h1 h2 h3 h4 h5 e))) (Heap.get?_update_self _ hS' rfl) (by rw [Array.toList_push, hacc, List.map_append]; rfl) (by rw [List.length_append, hal]; rfl) ⟨?_, ?_, ?_⟩⟩) (by rw [hsz]; omega) (by show (acc.push (Value.ref h.objs.size)).size ≤ sizeLine + 1; rw [Array.size_push, hsz]; omega)
    · refine List.pairwise_append.mpr ⟨hG.rise, List.pairwise_singleton _ _, fun a ha b hb => ?_⟩
      rw [List.mem_singleton.mp hb]
      exact hG.there ha
    · intro a ha
      rcases List.mem_append.mp ha with ha | ha
      · exact hG.above a ha
      · rw [List.mem_singleton.mp ha]; exact hSl
    · intro j b hj
      rcases Nat.lt_trichotomy j as.length with h1 | h1 | h1
      · rw [List.getElem?_append_left h1] at hj
        obtain ⟨y1, y2, e1, e2, e3⟩ := hG.pairs j b hj
        have hb := hG.above b (List.mem_of_getElem? hj)
        exact ⟨y1, y2, e1, e2, up b _ (Nat.ne_of_gt hb) (hkp b _ (Nat.ne_of_gt (Nat.lt_trans lz hb)) (Nat.ne_of_gt (Nat.lt_trans lTO hb)) (Nat.ne_of_gt (Nat.lt_trans l1 hb)) (Nat.ne_of_gt (Nat.lt_trans l2 hb)) e3)⟩
      · subst h1
        have hb : h.objs.size = b := by simpa using hj
        subst hb
        exact ⟨x1, x2, by rw [hal]; exact p1, by rw [hal]; exact p2, up _ _ (Nat.ne_of_gt hSl) ht⟩
      · have hnone : (as ++ [h.objs.size])[j]? = none := List.getElem?_eq_none (by rw [List.length_append, List.length_singleton]; omega)
        rw [hnone] at hj; cases hj
theorem zl_hint (hT : s.TypeIs (.ref z) "zip") {Q : Bool → Shared → Prop} (h : Q true s) : wpAny (model prog w) A (Builtin.List.listLengthHint (.ref z)) Q E s := by
  unfold Builtin.List.listLengthHint
  refine wpAny_bind (wpAny_specialOf hT zip_no_len ?_)
  show wpAny _ _ (specialOf (Value.ref z) (Str.ofString "__length_hint__") >>= _) _ _ _
  refine wpAny_bind (wpAny_specialOf hT zip_no_hint ?_)
  exact wpAny_pure h
theorem zl_extend {S : Addr} {m : Nat} (Z : ZipSep2 z TI TO i1 i2 fp1 fp2) (D1 : Draws prog w A.in1.in1 i1 fp1 n1 P1 St1) (D2 : Draws prog w A.in1.in1 i2 fp2 n2 P2 St2) (m1 : m ≤ n1) (m2 : m ≤ n2) (m3 : m = n1 ∨ m = n2)
    (lz : z < S) (lTI : TI < S) (lTO : TO < S) (l1 : i1 < S) (l2 : i2 < S) (f1 : S ∉ fp1) (f2 : S ∉ fp2) (hn : m ≤ sizeLine) (res : Value) (c₀ : Nat)
    (hz : IsZip s.heap z TI TO .none) (hTI : IsTupOf2 s.heap TI (.ref i1) (.ref i2)) {a1 a2 : Value} (hTO : IsTupOf2 s.heap TO a1 a2) (st1 : St1 0 s.heap) (st2 : St2 0 s.heap) (hS : s.heap.get? S = some { cls := .type "list", data := .seq #[] c₀ })
    (hR : ∀ h' tk acc c as, (∀ b o, b ≠ S → b ≠ z → b ≠ TO → b ≠ i1 → b ≠ i2 → s.heap.get? b = some o → h'.get? b = some o) → h'.get? S = some { cls := .type "list", dict := none, data := .seq acc c, slots := #[] } → as.length = m → ZlG P1 P2 S h' as →
      acc.toList = as.map Value.ref → R (.ok (.ret res)) { s with heap := h', toks := tk }) :
    wpAny (model prog w) A.in1 (Builtin.List.listExtendWith (.ref S) (.ref z) res)
      (fun fin s' => match fin with | .done f => R (.ok f) s' | .again c' => c'.quiet = true ∧ codeAny (model prog w) A c' R s') (fun e s' => R (.error e) s') s := by
  have hT : s.TypeIs (.ref z) "zip" := ⟨_, hz, rfl⟩
  unfold Builtin.List.listExtendWith
  refine wpAny_bind (wpAny_typeOf (T := "zip") hT ?_)
  have h1 : Builtin.List.listSameRef (.ref S) (.ref z) = false := by
    have : S ≠ z := Nat.ne_of_gt lz
    simp [Builtin.List.listSameRef, this]
  have h2 : (Value.type "zip" == Value.type "list") = false := by decide
  have h3 : (Value.type "zip" == Value.type "tuple") = false := by decide
  simp only [h1, h2, h3, Bool.or_false, Bool.false_eq_true, if_false]
  refine wpAny_bind (wpAny_pyIter_zip hz ?_)
  refine wpAny_bind (wpAny_holding (zl_hint hT ?_))
  refine wpAny_ite_split (fun _ => ?_) (fun hab => absurd rfl hab)
  refine wpAny_bind (wpAny_rule ?_)
  refine wpAny_bind ?_
  show wpAny _ _ (updateSeq S (·.push .none) >>= fun _ => updateSeq S (·.pop)) _ _ _
  refine wpAny_bind (wpAny_updateSeq hS rfl ?_)
  have hS₂ := Heap.get?_update_self (Obj.mapSeq (·.push Value.none)) hS rfl
  refine wpAny_updateSeq (hz := by seq_fits) hS₂ rfl ?_
  have hS₃ := Heap.get?_update_self (Obj.mapSeq (·.pop)) hS₂ rfl
  have oth : ∀ b o, b ≠ S → s.heap.get? b = some o → ((s.heap.update S (Obj.mapSeq (·.push Value.none))).update S (Obj.mapSeq (·.pop))).get? b = some o :=
    fun b o hb e => (Heap.get?_update_other _ _ (Ne.symm hb)).trans ((Heap.get?_update_other _ _ (Ne.symm hb)).trans e)
  refine wpAny_pure ⟨plainId_quiet PySem.F.plain_extend_loop _, zl_loop (s := s) (h₁ := s.heap) Z D1 D2 m1 m2 m3 lz lTI lTO l1 l2 f1 f2 hn res hR m 0 _ s.toks _ #[] [] (Nat.sub_zero _) (Nat.zero_le _)
    ⟨oth _ _ (Nat.ne_of_lt lTI) hTI, .inl ⟨oth _ _ (Nat.ne_of_lt lz) hz, a1, a2, oth _ _ (Nat.ne_of_lt lTO) hTO⟩⟩ (D1.frame _ _ _ st1 fun b hb o e => oth b o (fun q => f1 (q ▸ hb)) e) (D2.frame _ _ _ st2 fun b hb o e => oth b o (fun q => f2 (q ▸ hb)) e)
    (fun b o hb _ _ _ _ e => oth b o hb e) hS₃ rfl rfl ⟨List.Pairwise.nil, (fun _ ha => nomatch ha), (fun j a hj => by simp at hj)⟩⟩
theorem zl_init {S : Addr} {m : Nat} (Z : ZipSep2 z TI TO i1 i2 fp1 fp2) (D1 : Draws prog w A.in1.in1 i1 fp1 n1 P1 St1) (D2 : Draws prog w A.in1.in1 i2 fp2 n2 P2 St2) (m1 : m ≤ n1) (m2 : m ≤ n2) (m3 : m = n1 ∨ m = n2)
    (lz : z < S) (lTI : TI < S) (lTO : TO < S) (l1 : i1 < S) (l2 : i2 < S) (f1 : S ∉ fp1) (f2 : S ∉ fp2) (hn : m ≤ sizeLine)
    (hz : IsZip s.heap z TI TO .none) (hTI : IsTupOf2 s.heap TI (.ref i1) (.ref i2)) {a1 a2 : Value} (hTO : IsTupOf2 s.heap TO a1 a2) (st1 : St1 0 s.heap) (st2 : St2 0 s.heap) (hS : s.heap.get? S = some { cls := .type "list", data := .seq #[] })
    (hR : ∀ h' tk acc c as, (∀ b o, b ≠ S → b ≠ z → b ≠ TO → b ≠ i1 → b ≠ i2 → s.heap.get? b = some o → h'.get? b = some o) → h'.get? S = some { cls := .type "list", dict := none, data := .seq acc c, slots := #[] } → as.length = m → ZlG P1 P2 S h' as →
      acc.toList = as.map Value.ref → R (.ok (.ret .none)) { s with heap := h', toks := tk }) :
    wpAny (model prog w) A.in1 (Builtin.«list.__init__» ⟨[.ref S, .ref z], []⟩)
      (fun fin s' => match fin with | .done f => R (.ok f) s' | .again c' => c'.quiet = true ∧ codeAny (model prog w) A c' R s') (fun e s' => R (.error e) s') s := by
  show wpAny _ _ (do let old ← Builtin.List.listItems (.ref S); Builtin.List.listUpdate (.ref S) (fun _ => #[]); letGo old.toList.reverse; Builtin.List.listExtendWith (.ref S) (.ref z) .none) _ _ s
  refine wpAny_bind ?_
  unfold Builtin.List.listItems
  refine wpAny_bind (wpAny_seqItems hS rfl (wpAny_pure ?_))
  show wpAny _ _ (updateSeq S (fun _ => #[]) >>= fun _ => letGo (#[] : Array Value).toList.reverse >>= fun _ => Builtin.List.listExtendWith (.ref S) (.ref z) .none) _ _ s
  refine wpAny_bind (wpAny_updateSeq hS rfl ?_)
  have hS₂ := Heap.get?_update_self (Obj.mapSeq (fun _ => (#[] : Array Value))) hS rfl
  have oth : ∀ b o, b ≠ S → s.heap.get? b = some o → (s.heap.update S (Obj.mapSeq (fun _ => (#[] : Array Value)))).get? b = some o :=
    fun b o hb e => (Heap.get?_update_other _ _ (Ne.symm hb)).trans e
  refine wpAny_bind (wpAny_letGo ?_)
  refine zl_extend Z D1 D2 m1 m2 m3 lz lTI lTO l1 l2 f1 f2 hn .none _ (oth _ _ (Nat.ne_of_lt lz) hz) (oth _ _ (Nat.ne_of_lt lTI) hTI) (oth _ _ (Nat.ne_of_lt lTO) hTO) (D1.frame _ _ _ st1 fun b hb o e => oth b o (fun q => f1 (q ▸ hb)) e) (D2.frame _ _ _ st2 fun b hb o e => oth b o (fun q => f2 (q ▸ hb)) e) hS₂ (fun h' tk acc c as hk hS' hl hG hacc => ?_)
  exact hR h' tk acc c as (fun b o hb h1 h2 h3 h4 e => hk b o hb h1 h2 h3 h4 (oth b o hb e)) hS' hl hG hacc
theorem zl_call {m : Nat} {Q : Value → Shared → Prop} (Z : ZipSep2 z TI TO i1 i2 fp1 fp2) (D1 : Draws prog w A.in1.in1.in1 i1 fp1 n1 P1 St1) (D2 : Draws prog w A.in1.in1.in1 i2 fp2 n2 P2 St2) (m1 : m ≤ n1) (m2 : m ≤ n2) (m3 : m = n1 ∨ m = n2)
    (l1 : i1 < s.heap.objs.size) (l2 : i2 < s.heap.objs.size) (f1 : s.heap.objs.size ∉ fp1) (f2 : s.heap.objs.size ∉ fp2) (hn : m ≤ sizeLine)
    (hz : IsZip s.heap z TI TO .none) (hTI : IsTupOf2 s.heap TI (.ref i1) (.ref i2)) {a1 a2 : Value} (hTO : IsTupOf2 s.heap TO a1 a2) (st1 : St1 0 s.heap) (st2 : St2 0 s.heap)
    (hQ : ∀ h' tk acc c as, (∀ b o, b ≠ z → b ≠ TO → b ≠ i1 → b ≠ i2 → s.heap.get? b = some o → h'.get? b = some o) → h'.get? s.heap.objs.size = some { cls := .type "list", dict := none, data := .seq acc c, slots := #[] } → as.length = m → ZlG P1 P2 s.heap.objs.size h' as →
      acc.toList = as.map Value.ref → Q (.ref s.heap.objs.size) { s with heap := h', toks := tk }) :
    wpAny (model prog w) A (call (.type "list") [.ref z]) Q E s := by
  refine callType_codes (Q₁ := fun obj s₁ => obj = .ref s.heap.objs.size ∧ s₁ = { s with heap := s.heap.push { cls := .type "list", data := .seq #[] } }) PySem.F.called_list (PySem.F.typeCall_list_1 _) PySem.F.entry_list_init
    (code_list_new _ ⟨rfl, rfl⟩) fun obj s₁ h₁ => ?_
  obtain ⟨rfl, rfl⟩ := h₁
  have hS : (s.heap.push { cls := .type "list", data := .seq #[] }).get? s.heap.objs.size = some { cls := .type "list", data := .seq #[] } := Heap.get?_push_size _ rfl
  have push : ∀ c o, s.heap.get? c = some o → (s.heap.push { cls := .type "list", data := .seq #[] }).get? c = some o := fun c o e => Heap.get?_push_of_some _ e
  refine ⟨⟨_, hS, rfl⟩, PySem.F.args_list_init_2 _ _, zl_init (A := A.in1) Z D1 D2 m1 m2 m3 (Heap.lt_size hz) (Heap.lt_size hTI) (Heap.lt_size hTO) l1 l2 f1 f2 hn (push _ _ hz) (push _ _ hTI) (push _ _ hTO) (D1.frame _ _ _ st1 fun b _ o e => push b o e) (D2.frame _ _ _ st2 fun b _ o e => push b o e) hS (fun h' tk acc c as hk hS' hl hG hacc => ?_)⟩
  exact ⟨rfl, hQ h' tk acc c as (fun b o h1 h2 h3 h4 e => hk b o (Nat.ne_of_lt (Heap.lt_size e)) h1 h2 h3 h4 (push b o e)) hS' hl hG hacc⟩
end
namespace LZ
open L2
/-- the tuples tracked at their addresses -/
def putZ : Hp → List Addr → List (V × V) → Hp
  | H, a :: as, p :: kvs => putZ (upd H a (.tup [p.1, p.2])) as kvs
  | H, _, _ => H
theorem putZ_off {b : Addr} : ∀ (as : List Addr) (kvs : List (V × V)) (H : Hp), b ∉ as → putZ H as kvs b = H b
  | [], _, _, _ => rfl
  | _ :: _, [], _, _ => rfl
  | a :: as, p :: kvs, H, h => by
    show putZ (upd H a (.tup [p.1, p.2])) as kvs b = H b
    rw [putZ_off as kvs _ (fun z => h (List.mem_cons_of_mem _ z)), upd_ne (fun z => h (by rw [z]; exact List.mem_cons_self))]
theorem putZ_at : ∀ (as : List Addr) (kvs : List (V × V)) (H : Hp), as.length = kvs.length → as.Nodup → Paired (fun (t : Addr) (p : V × V) => putZ H as kvs t = some (.tup [p.1, p.2])) as kvs
  | [], [], _, _, _ => .nil
  | [], _ :: _, _, h, _ => by cases h
  | _ :: _, [], _, h, _ => by cases h
  | a :: as, p :: kvs, H, h, hn => by
    have hn' := List.nodup_cons.mp hn
    have ih := putZ_at as kvs (upd H a (.tup [p.1, p.2])) (Nat.succ.inj h) hn'.2
    refine .cons ?_ ih
    show putZ (upd H a (.tup [p.1, p.2])) as kvs a = some (.tup [p.1, p.2])
    rw [putZ_off as kvs _ hn'.1, upd_same]
theorem zip_get {α β : Type} : ∀ {xs : List α} {ys : List β} {j : Nat} {p : α × β}, (xs.zip ys)[j]? = some p → xs[j]? = some p.1 ∧ ys[j]? = some p.2
  | [], _, _, _, h => by cases h
  | _ :: _, [], _, _, h => by cases h
  | x :: xs, y :: ys, 0, p, h => by
    have e : (x, y) = p := Option.some.inj h
    rw [← e]
    exact ⟨rfl, rfl⟩
  | x :: xs, y :: ys, j + 1, p, h => zip_get (xs := xs) (ys := ys) (j := j) h
theorem zip_laid {X : Cx} {pins : List (Addr × Obj)} {σ : L2.St} {H : Hp} {s : Shared} {h' : Heap} {tk : Nat} {S : Addr} {xs ys : List V} {its its2 : List Value} {acc : Array Value} {c : Nat} {as : List Addr} (I : Inv X pins σ H s) (hz : (xs.zip ys).length ≤ sizeLine) (rv : Vals xs its) (rv2 : Vals ys its2)
    (hk : ∀ b o, s.heap.get? b = some o → h'.get? b = some o) (hSl : s.heap.objs.size ≤ S) (hS : h'.get? S = some { cls := .type "list", dict := none, data := .seq acc c, slots := #[] }) (hl : as.length = (xs.zip ys).length) (hG : ZlG (fun k y => its.toArray[k]? = some y) (fun k y => its2.toArray[k]? = some y) S h' as) (hacc : acc.toList = as.map Value.ref) :
    ∃ H' : Hp, (∀ b o, H b = some o → H' b = some o) ∧ H S = none ∧ (∀ t ∈ as, H t = none) ∧ S ∉ as ∧ H' S = some (.lst (as.map V.ref)) ∧ Paired (fun (t : Addr) (q : V × V) => H' t = some (.tup [q.1, q.2])) as (xs.zip ys) ∧ Inv X pins σ H' { s with heap := h', toks := tk } := by
  have hSn : S ∉ as := fun z => Nat.lt_irrefl _ (hG.above _ z)
  have nd : as.Nodup := List.Pairwise.imp (fun {a b} (h : a < b) => Nat.ne_of_lt h) hG.rise
  have new : ∀ t ∈ as, H t = none := fun t ht => I.hok.fresh (Nat.le_of_lt (Nat.lt_of_le_of_lt hSl (hG.above t ht)))
  have newS : H S = none := I.hok.fresh hSl
  have atP := putZ_at as (xs.zip ys) (upd H S (.lst (as.map V.ref))) hl nd
  have off : ∀ b, b ∉ as → b ≠ S → putZ (upd H S (.lst (as.map V.ref))) as (xs.zip ys) b = H b := fun b h1 h2 => by rw [putZ_off as _ _ h1, upd_ne h2]
  have low : ∀ b o, s.heap.get? b = some o → b ∉ as ∧ b ≠ S := fun b o e => ⟨fun z => absurd (Heap.lt_size e) (Nat.not_lt.mpr (Nat.le_of_lt (Nat.lt_of_le_of_lt hSl (hG.above b z)))), Nat.ne_of_lt (Nat.lt_of_lt_of_le (Heap.lt_size e) hSl)⟩
  have kp : ∀ b u, H b = some u → (putZ (upd H S (.lst (as.map V.ref))) as (xs.zip ys)) b = some u := fun b u e => by
    rw [off b (fun z => by rw [new b z] at e; cases e) (fun z => by rw [z, newS] at e; cases e)]
    exact e
  have eS : putZ (upd H S (.lst (as.map V.ref))) as (xs.zip ys) S = some (.lst (as.map V.ref)) := by rw [putZ_off as _ _ hSn, upd_same]
  refine ⟨putZ (upd H S (.lst (as.map V.ref))) as (xs.zip ys), kp, newS, new, hSn, eS, atP, ?_⟩
  refine I.call' (ch := []) rfl ⟨fun b o q _ _ _ => hk b o q, fun b o q _ _ _ => ⟨o.slots, hk b o q⟩, fun b o q n _ => ?_, fun b o q _ => ⟨o, hk b o q⟩, fun b xs q => kp b _ q, fun b o u q => kp b _ q, fun b ps q => ⟨#[], by rw [kp b _ q]; simp⟩⟩ (fun b u q => ?_) I.bare fun b z => by simp at z
  · obtain ⟨z1, z2⟩ := low b o q
    rw [off b z1 z2]
    exact n
  · by_cases hb : b ∈ as
    · obtain ⟨j, pk, e1, e2, e3⟩ := LiI.paired_ix atP hb
      rw [e3] at q
      cases q
      obtain ⟨x1, x2, f1, f2, f3⟩ := hG.pairs j b e1
      obtain ⟨g1, g2⟩ := zip_get e2
      obtain ⟨u1, hu1, ru1⟩ := rv.get g1
      obtain ⟨u2, hu2, ru2⟩ := rv2.get g2
      have w1 : x1 = u1 := by
        have : its.toArray[j]? = some u1 := by simpa using hu1
        rw [this] at f1
        exact (Option.some.inj f1).symm
      have w2 : x2 = u2 := by
        have : its2.toArray[j]? = some u2 := by simpa using hu2
        rw [this] at f2
        exact (Option.some.inj f2).symm
      subst w1 w2
      exact ⟨by show 2 ≤ sizeLine; decide, [x1, x2], .cons ru1 (.cons ru2 .nil), ⟨_, f3, rfl, _, rfl⟩⟩
    · by_cases hb2 : b = S
      · rw [hb2] at q ⊢
        rw [eS] at q
        cases q
        refine ⟨by rw [List.length_map]; omega, acc.toList, c, by rw [hacc]; exact LiI.vals_refs as, ?_⟩
        rw [Array.toArray_toList]
        exact hS
      · rw [off b hb hb2] at q
        exact (I.hok b u q).stay (fun d v _ y => hk d v y) (fun d y => kp d _ y) fun d xs y => kp d _ y
theorem HSq.keep {b : Bool} {h h' : Heap} {l : Addr} {items : Array Value} (x : HSq b h l items) (k : ∀ c o, h.get? c = some o → h'.get? c = some o) : HSq b h' l items := by
  cases b
  · obtain ⟨o, ho, r⟩ := x
    exact ⟨o, k _ _ ho, r⟩
  · obtain ⟨o, ho, r⟩ := x
    exact ⟨o, k _ _ ho, r⟩
theorem n5a {n S : Nat} (e : S = n + 5) : n < S := by omega
theorem n5b {n S : Nat} (e : S = n + 5) : n + 1 < S := by omega
theorem n5c {n S : Nat} (e : S = n + 5) : S ≠ n := by omega
theorem n5d {n S : Nat} (e : S = n + 5) : S ≠ n + 1 := by omega
theorem n5e {n S x : Nat} (e : S = n + 5) (h : x < n) : S ≠ x := by omega
theorem n5f {n x : Nat} (k : Nat) (h : x < n) : x ≠ n + k := by omega
theorem n5g {n S : Nat} (e : S = n + 5) : n ≤ S := by omega
def tListZip (K : Fr) (ta : TA) : TE := fun σ H Q => ta σ H fun vs H1 => ∃ b1 b2 a b xs ys, vs = [.ref a, .ref b] ∧ SqK K b1 H1 a xs ∧ SqK K b2 H1 b ys ∧ (xs.zip ys).length ≤ sizeLine ∧
  ∀ (H' : Hp) (p : Addr) (ts : List Addr), (∀ b o, H1 b = some o → H' b = some o) → H1 p = none → (∀ t ∈ ts, H1 t = none) → p ∉ ts → H' p = some (.lst (ts.map V.ref)) → Paired (fun (t : Addr) (q : V × V) => H' t = some (.tup [q.1, q.2])) ts (xs.zip ys) → Q (.ref p) H'
theorem pe_listZip {X : Cx} {e e2 : Expr} {ta : TA} {p pz pos zpos : Pos} (hc : X.calm = true) (hg : Gl X "zip") (hm : X.mg "zip" = none) (hg2 : Gl X "list") (hm2 : X.mg "list" = none) (ha : PA X [e, e2] ta)
    (hs : starEach [e, e2] X.env = (false, eval e X.env) :: starEach [e2] X.env := by rfl) (hpl : (backTo zpos (starEach [e2] X.env)).any (·.1) = false := by rfl)
    (hs2 : starEach [.Call (.Name "zip" pz) [e, e2] [] zpos] X.env = (false, eval (.Call (.Name "zip" pz) [e, e2] [] zpos) X.env) :: starEach [] X.env := by rfl) :
    PE X (.Call (.Name "list" p) [.Call (.Name "zip" pz) [e, e2] [] zpos] [] pos) (tListZip X.K ta) := by
  refine ⟨fun pins s σ H Q I hq => ?_⟩
  refine wpAny_Call_Name_kw (ld_blt I hg2 hm2 (by decide +kernel : bootBuiltins "list" = some (.type "list")) ?_)
  refine PyProof.Rows.callWith_type1 ?_ hs2 rfl
  rw [hs2]
  show wpAny _ _ (spliced ((false, eval (.Call (.Name "zip" pz) [e, e2] [] zpos) X.env) :: backTo pos (starEach [] X.env))) _ _ s
  refine Calls.spliced_cons ?_
  refine Call_ (ld_blt I hg hm PyProof.Rows.boot_zip (PyProof.Rows.callWith_type1 (thn (ha.run zpos pins s σ H _ I hq) fun us s1 ⟨vs, H1, I1, r1, q1⟩ => ?_) hs hpl))
  obtain ⟨b1, b2, a, b, xs, ys, ex, hqx, hqy, hz0, q⟩ := q1
  subst ex
  cases r1 with
  | cons r rr =>
    cases rr with
    | cons r' rr =>
      cases rr
      cases r
      cases r'
      obtain ⟨its, rv, p1, lt1⟩ := inv_seq I1 hqx
      obtain ⟨its2, rv2, p2, lt2⟩ := inv_seq I1 hqy
      have ll1 := rv.length
      have ll2 := rv2.length
      refine zip_begins2 (begK b1 a its.toArray) (begK b2 b its2.toArray) p1 p2 fun h' hz hTI hTO h1 h2 hsz hk => ?_
      refine Calls.spliced_nil ?_
      have hhd : X.A.handled = none := I1.ok.hd hc
      have g1 : HSq b1 h' a its.toArray := HSq.keep p1 hk
      have g2 : HSq b2 h' b its2.toArray := HSq.keep p2 hk
      have D1 := drwK (pr := X.prog) (wd := X.w) (Ar := X.A.in1.in1.in1) hhd b1 s1.heap.objs.size a (Nat.ne_of_lt lt1) its.toArray
      have D2 := drwK (pr := X.prog) (wd := X.w) (Ar := X.A.in1.in1.in1) hhd b2 (s1.heap.objs.size + 1) b (Nat.ne_of_lt (Nat.lt_succ_of_lt lt2)) its2.toArray
      have e1 : its.toArray.size = its.length := by simp
      have e2 : its2.toArray.size = its2.length := by simp
      have zl : (xs.zip ys).length = min its.length its2.length := by rw [List.length_zip, ll1, ll2]
      have szn : ({ s1 with heap := h' } : Shared).heap.objs.size = s1.heap.objs.size + 5 := hsz
      refine zl_call (s := { s1 with heap := h' }) (m := (xs.zip ys).length) (sep2 s1.heap.objs.size a b lt1 lt2) D1 D2 (by omega) (by omega) (by omega) (n5a szn) (n5b szn) (notIn2 (n5c szn) (n5e szn lt1)) (notIn2 (n5d szn) (n5e szn lt2)) hz0 hz hTI hTO ⟨HIt.new h1, g1⟩ ⟨HIt.new h2, g2⟩ fun h'' tk acc c as hk2 hS hl hG hacc => ?_
      have old : ∀ b o, s1.heap.get? b = some o → h''.get? b = some o := fun b o e => by
        have := Heap.lt_size e
        exact hk2 b o (n5f 4 this) (n5f 3 this) (n5f 0 this) (n5f 1 this) (hk b o e)
      obtain ⟨H', k1, k2, k3, k4, k5, k6, J⟩ := zip_laid (tk := tk) I1 hz0 rv rv2 old (n5g szn) hS hl hG hacc
      exact ⟨.ref _, H', J, rfl, q H' _ as k1 k2 k3 k4 k5 k6⟩
/-- the list of the pairs of two sequences -/
def dListZip (xs : List D) : Option D := (zipM xs).bind fun l => if l.length ≤ 1000000 then some (.list l) else none
theorem paired_dq {K : Fr} {G G' : Hp} (gg : Same G G') : ∀ {vs ws : List V} {xs ys : List D} {ts : List Addr}, DqAll K G vs xs → DqAll K G ws ys → Paired (fun (t : Addr) (q : V × V) => G' t = some (.tup [q.1, q.2])) ts (vs.zip ws) → DqAll K G' (ts.map V.ref) (zipL xs ys)
  | _, ws, _, ys, ts, .nil, hb, h => by
    have h : Paired (fun (t : Addr) (q : V × V) => G' t = some (.tup [q.1, q.2])) ts [] := h
    cases h
    exact .nil
  | _, _, _, _, ts, .cons a r, .nil, h => by
    have h : Paired (fun (t : Addr) (q : V × V) => G' t = some (.tup [q.1, q.2])) ts [] := h
    cases h
    exact .nil
  | _, _, _, _, ts, .cons a r, .cons b r', h => by
    rw [List.zip_cons_cons] at h
    cases h with
    | cons h t => exact .cons (.tup (SqT.of h) (.cons (Dq_mono gg a) (.cons (Dq_mono gg b) .nil))) (paired_dq gg r r' t)
open Classical in
theorem qe_listZip {X : Cx} {e e2 : Expr} {m : M (List D)} {p pz pos zpos : Pos} (hc : X.calm = true) (hm : X.mg "zip" = none) (hm2 : X.mg "list" = none) (ha : QA X [e, e2] m) (hg : Gl X "zip" := by rfl) (hg2 : Gl X "list" := by rfl)
    (hs : starEach [e, e2] X.env = (false, eval e X.env) :: starEach [e2] X.env := by rfl) (hpl : (backTo zpos (starEach [e2] X.env)).any (·.1) = false := by rfl)
    (hs2 : starEach [.Call (.Name "zip" pz) [e, e2] [] zpos] X.env = (false, eval (.Call (.Name "zip" pz) [e, e2] [] zpos) X.env) :: starEach [] X.env := by rfl) :
    QE X (.Call (.Name "list" p) [.Call (.Name "zip" pz) [e, e2] [] zpos] [] pos) (eApp dListZip m) := by
  refine PE.imp (pe_listZip hc hg hm hg2 hm2 ha hs hpl hs2) fun σ H Q h => ?_
  obtain ⟨R, G, ρ, d, ρ', rp, e, k⟩ := h
  obtain ⟨x, h1, h2⟩ := bindA e
  refine ⟨R, G, ρ, x, ρ', rp, h1, fun G1 H1 v1 s1 r1 d1 => ?_⟩
  unfold dListZip at h2
  rw [Option.bind_eq_some_iff] at h2
  obtain ⟨l, h3, h2⟩ := h2
  split at h2
  · rename_i hl
    cases h2
    unfold zipM at h3
    split at h3
    · rw [Option.bind_eq_some_iff] at h3
      obtain ⟨⟨b1, xs1⟩, e1, h3⟩ := h3
      rw [Option.map_eq_some_iff] at h3
      obtain ⟨⟨b2, xs2⟩, e2, h3⟩ := h3
      cases h3
      cases d1 with
      | cons da dr =>
        cases dr with
        | cons db dr =>
          cases dr
          obtain ⟨a, vs, rfl, ha, hva⟩ := dq_seq da e1
          obtain ⟨b, ws, rfl, hb, hvb⟩ := dq_seq db e2
          have l1 := hva.length
          have l2 := hvb.length
          rw [zipL_length] at hl
          refine ⟨b1, b2, a, b, vs, ws, rfl, ha H1 r1.subG, hb H1 r1.subG, by rw [List.length_zip, l1, l2]; exact size_of hl, fun H' p ts k1 k2 k3 k4 k5 k6 => ?_⟩
          let G' : Hp := fun c => if H1 c = none then H' c else G1 c
          have gr : Gr G1 H1 G' H' := by
            refine ⟨fun c o q => k1 c o q, fun c o q => ?_, fun c o q => ?_, fun c o q1 q2 => ?_⟩
            · show (if H1 c = none then H' c else G1 c) = some o
              rw [if_neg (fun z => by rw [r1.subG c o q] at z; cases z)]
              exact q
            · have q : (if H1 c = none then H' c else G1 c) = some o := q
              split at q
              · exact q
              · exact k1 c o (r1.subG c o q)
            · have q2 : (if H1 c = none then H' c else G1 c) = some o := q2
              split at q2
              · assumption
              · rw [q1] at q2; cases q2
          have at' : ∀ c, H1 c = none → G' c = H' c := fun c q => if_pos q
          refine k G' H' _ (s1.trans gr.gg) (r1.grow gr) (.lst (by rw [at' p k2]; exact k5) (paired_dq gr.gg hva hvb ?_))
          have : ∀ {ts : List Addr} {qs : List (V × V)}, (∀ t ∈ ts, H1 t = none) → Paired (fun (t : Addr) (q : V × V) => H' t = some (.tup [q.1, q.2])) ts qs → Paired (fun (t : Addr) (q : V × V) => G' t = some (.tup [q.1, q.2])) ts qs := by
            intro ts qs hn h
            induction h with
            | nil => exact .nil
            | cons h t ih => exact .cons (by rw [at' _ (hn _ List.mem_cons_self)]; exact h) (ih fun t ht => hn t (List.mem_cons_of_mem _ ht))
          exact this k3 k6
    · cases h3
  · cases h2
end LZ
end QL
set_option Elab.async false
set_option linter.all false
set_option maxRecDepth 100000
set_option maxHeartbeats 1000000
/-! ### what may raise, as a function; the exception that is handled, looked at -/
namespace QL
open PySem PySem.Spec PyProof.Rows L2 L2H
inductive Ex (α : Type) where
  | ok (x : α)
  | er (z : Str)
abbrev MX := Ro → Option (Ex D × Ro)
abbrev MXS := Ro → Option (Ex Fl × Ro)
def zQ (K : Fr) (cm : Str → Value) (Wx : WX) (R G : Hp) (Q : VK) (σ : St) (ρ' : Ro) : Ex D → Prop
  | .ok d => ∀ G' H' v, Same G G' → Rep K R G' H' ρ' σ → Dq K G' v d → Q v H'
  | .er z => ∀ G' H', Same G G' → Rep K R G' H' ρ' σ → Wx (cm z) none σ H'
theorem zQ_mono {K : Fr} {cm : Str → Value} {Wx : WX} {R G G1 : Hp} {Q : VK} {σ : St} {ρ' : Ro} {r : Ex D} (h : zQ K cm Wx R G Q σ ρ' r) (s1 : Same G G1) : zQ K cm Wx R G1 Q σ ρ' r := by
  cases r with
  | ok d => exact fun G' H' v s r d => h G' H' v (s1.trans s) r d
  | er z => exact fun G' H' s r => h G' H' (s1.trans s) r
def tZE (K : Fr) (cm : Str → Value) (Wx : WX) (m : MX) : TE := fun σ H Q => ∃ R G ρ r ρ', Rep K R G H ρ σ ∧ m ρ = some (r, ρ') ∧ zQ K cm Wx R G Q σ ρ' r
def exQ (K : Fr) (cm : Str → Value) (Wx : WX) (R G : Hp) (E : Ends) (σ : St) (W : List Nat) (ρ' : Ro) : Ex Fl → Prop
  | .ok f => flQ K R G E σ W ρ' f
  | .er z => ∀ G' H' σ', Same G G' → Rep K R G' H' ρ' σ' → Frm W σ σ' → Wx (cm z) none σ' H'
def tZS (K : Fr) (cm : Str → Value) (Wx : WX) (W : List Nat) (m : MXS) : TS := fun E σ H => ∃ R G ρ r ρ', Rep K R G H ρ σ ∧ m ρ = some (r, ρ') ∧ exQ K cm Wx R G E σ W ρ' r
theorem exQ_mono {K : Fr} {cm : Str → Value} {Wx : WX} {R G G1 : Hp} {E : Ends} {ρ' : Ro} {W V : List Nat} {σ σ1 : St} {f : Ex Fl} (h : exQ K cm Wx R G E σ W ρ' f) (s : Same G G1) (fr : ∀ σ', Frm V σ1 σ' → Frm W σ σ') : exQ K cm Wx R G1 E σ1 V ρ' f := by
  cases f with
  | ok f => exact flQ_mono h s fr
  | er z => exact fun G' H' σ' s' r f => h G' H' σ' (s.trans s') r (fr σ' f)
def xLift (m : MS) : MXS := fun ρ => (m ρ).map fun p => (.ok p.1, p.2)
def xLiftE (m : M D) : MX := fun ρ => (m ρ).map fun p => (.ok p.1, p.2)
def xCons (a b : MXS) : MXS := fun ρ => (a ρ).bind fun p => match p.1 with
  | .ok .nx => b p.2
  | f => some (f, p.2)
def xIfS (c : M Bool) (a b : MXS) : MXS := fun ρ => (c ρ).bind fun p => if p.1 = true then a p.2 else b p.2
def xIfE (c : M Bool) (a b : MX) : MX := fun ρ => (c ρ).bind fun p => if p.1 = true then a p.2 else b p.2
def xRaise (y : Str) : MXS := fun ρ => some (.er y, ρ)
def xRet (a : MX) : MXS := fun ρ => (a ρ).map fun p => match p.1 with
  | .ok d => (.ok (.rt d), p.2)
  | .er z => (.er z, p.2)
def xDrop (a : MX) : MXS := fun ρ => (a ρ).map fun p => match p.1 with
  | .ok _ => (.ok .nx, p.2)
  | .er z => (.er z, p.2)
def xApp (F : List D → Option (Ex D)) (m : M (List D)) : MX := fun ρ => (m ρ).bind fun p => (F p.1).map fun r => (r, p.2)
def spX (K : Fr) (cm : Str → Value) (F : List D → Option (Ex D)) (n : Nat) : Sp := fun vs H Q E => vs.length = n ∧ ∃ G ds r, Same G H ∧ DqAll K G vs ds ∧ F ds = some r ∧ match r with
  | .ok d => ∀ G' H' v, Gr G H G' H' → Dq K G' v d → Q v H'
  | .er z => ∀ G' H', Gr G H G' H' → E (cm z) none H'
def endX : Ex Fl × Ro → Option (Ex D)
  | (.ok (.rt d), _) => some (.ok d)
  | (.ok .nx, _) => some (.ok .none)
  | (.er z, _) => some (.er z)
  | _ => none
def runX (n N : Nat) (body : MXS) : List D → Option (Ex D) := fun ds => if ds.length = n then (body (ds.map Sl.dat ++ List.replicate (N - n) Sl.un)).bind endX else none
theorem runX_len {n N : Nat} {body : MXS} : ∀ ds d, runX n N body ds = some d → ds.length = n := fun ds d h => by
  unfold runX at h
  split at h
  · assumption
  · cases h
section
variable {X : Cx} {cm : Str → Value} {Wx : WX} {pos p p2 : Pos} {W V : List Nat}
theorem xs_lift {st : Stmt} {m : MS} (h : QS X W st m) : PS X st (tZS X.K cm Wx W (xLift m)) := by
  refine PS.imp h fun E σ H h => ?_
  obtain ⟨R, G, ρ, r, ρ', rp, e, k⟩ := h
  unfold xLift at e
  rw [Option.map_eq_some_iff] at e
  obtain ⟨⟨f, ρ1⟩, h1, e⟩ := e
  cases e
  exact ⟨R, G, ρ, f, _, rp, h1, k⟩
theorem xss_lift {st : List Stmt} {m : MS} (h : QSs X W st m) : PSs X st (tZS X.K cm Wx W (xLift m)) := by
  refine PSs.imp h fun E σ H h => ?_
  obtain ⟨R, G, ρ, r, ρ', rp, e, k⟩ := h
  unfold xLift at e
  rw [Option.map_eq_some_iff] at e
  obtain ⟨⟨f, ρ1⟩, h1, e⟩ := e
  cases e
  exact ⟨R, G, ρ, f, _, rp, h1, k⟩
theorem xss_one {st : Stmt} {m : MXS} (h : PS X st (tZS X.K cm Wx W m)) : PSs X [st] (tZS X.K cm Wx W m) := pss_one h
theorem xss_cons {st : Stmt} {rest : List Stmt} {m n : MXS} (h1 : PS X st (tZS X.K cm Wx W m)) (h2 : PSs X rest (tZS X.K cm Wx V n)) : PSs X (st :: rest) (tZS X.K cm Wx (W ++ V) (xCons m n)) := by
  refine PSs.imp (pss_cons h1 h2) fun E σ H h => ?_
  obtain ⟨R, G, ρ, r, ρ', rp, e, k⟩ := h
  unfold xCons at e
  rw [Option.bind_eq_some_iff] at e
  obtain ⟨⟨f, ρ1⟩, h1, e⟩ := e
  have left : ∀ σ', Frm W σ σ' → Frm (W ++ V) σ σ' := fun σ' z => z.mono fun j hj => List.mem_append_left _ hj
  refine ⟨R, G, ρ, f, ρ1, rp, h1, ?_⟩
  cases f with
  | er z =>
    cases e
    exact fun G' H' σ' s r f => k G' H' σ' s r (left σ' f)
  | ok f =>
    cases f with
    | nx =>
      intro G1 H1 σ1 s1 r1 f1
      exact ⟨R, G1, ρ1, r, ρ', r1, e, exQ_mono k s1 fun σ' z => f1.trans z⟩
    | bk => cases e; exact flQ_mono (f := .bk) k (.refl _) left
    | ct => cases e; exact flQ_mono (f := .ct) k (.refl _) left
    | rt d => cases e; exact flQ_mono (f := .rt d) k (.refl _) left
theorem xs_if {c : Expr} {a b : List Stmt} {m : M Bool} {u v : MXS} (hc : QT X c m) (ha : PSs X a (tZS X.K cm Wx W u)) (hb : PSs X b (tZS X.K cm Wx V v)) : PS X (.If c a b pos) (tZS X.K cm Wx (W ++ V) (xIfS m u v)) := by
  refine PS.imp (ps_if hc ha hb) fun E σ H h => ?_
  obtain ⟨R, G, ρ, f, ρ', rp, e, k⟩ := h
  unfold xIfS at e
  rw [Option.bind_eq_some_iff] at e
  obtain ⟨⟨b1, ρ1⟩, hm, e⟩ := e
  refine ⟨R, G, ρ, b1, ρ1, rp, hm, fun G1 H1 s1 r1 => ?_⟩
  cases b1 with
  | true =>
    rw [if_pos rfl] at e ⊢
    exact ⟨R, G1, ρ1, f, ρ', r1, e, exQ_mono k s1 fun σ' z => z.mono fun j hj => List.mem_append_left _ hj⟩
  | false =>
    rw [if_neg Bool.false_ne_true] at e ⊢
    exact ⟨R, G1, ρ1, f, ρ', r1, e, exQ_mono k s1 fun σ' z => z.mono fun j hj => List.mem_append_right _ hj⟩
theorem xs_raise {B newId initId : String} {bmB : List Value} {y m : Str} {j : Nat} {pos' : Pos} (F : ExcBaseFacts B newId initId bmB) (hC : ClsOk X.K X.mg cm bmB newId y) (tk : Takes X Wx) (hc : X.calm = true := by rfl) (hg : Gl X y := by rfl) (hdb : (y == ("__debug__" : Str)) = false := by decide) :
    PS X (.Raise (some (.Call (.Name y p) [.Constant (.str m) j p2] [] pos)) none pos') (tZS X.K cm Wx [] (xRaise y)) := by
  obtain ⟨C, h1, h2, h3, h4, h5, h6⟩ := hC.ex
  refine PS.imp (ps_raise hc tk (pmk_own F h4 h2 h3 (raises_own h5 h6) hg hdb)) fun D σ H h => ?_
  obtain ⟨R, G, ρ, x, ρ', rp, e, k⟩ := h
  cases e
  have := k G H σ (.refl _) rp (.refl _ _)
  rw [h1] at this
  exact this
theorem xe_lift {e : Expr} {m : M D} (h : QE X e m) : PE X e (tZE X.K cm Wx (xLiftE m)) := by
  refine PE.imp h fun σ H Q h => ?_
  obtain ⟨R, G, ρ, r, ρ', rp, e, k⟩ := h
  unfold xLiftE at e
  rw [Option.map_eq_some_iff] at e
  obtain ⟨⟨f, ρ1⟩, h1, e⟩ := e
  cases e
  exact ⟨R, G, ρ, f, _, rp, h1, k⟩
theorem xe_if {c a b : Expr} {m : M Bool} {u v : MX} (hc : QT X c m) (ha : PE X a (tZE X.K cm Wx u)) (hb : PE X b (tZE X.K cm Wx v)) : PE X (.IfExp c a b pos) (tZE X.K cm Wx (xIfE m u v)) := by
  refine PE.imp (pe_ifExp hc ha hb) fun σ H Q h => ?_
  obtain ⟨R, G, ρ, f, ρ', rp, e, k⟩ := h
  unfold xIfE at e
  rw [Option.bind_eq_some_iff] at e
  obtain ⟨⟨b1, ρ1⟩, hm, e⟩ := e
  refine ⟨R, G, ρ, b1, ρ1, rp, hm, fun G1 H1 s1 r1 => ?_⟩
  cases b1 with
  | true =>
    rw [if_pos rfl] at e
    show tZE X.K cm Wx u σ H1 Q
    exact ⟨R, G1, ρ1, f, ρ', r1, e, zQ_mono k s1⟩
  | false =>
    rw [if_neg Bool.false_ne_true] at e
    show tZE X.K cm Wx v σ H1 Q
    exact ⟨R, G1, ρ1, f, ρ', r1, e, zQ_mono k s1⟩
theorem xs_ret {e : Expr} {m : MX} (h : PE X e (tZE X.K cm Wx m)) : PS X (.Return (some e) pos) (tZS X.K cm Wx [] (xRet m)) := by
  refine PS.imp (ps_ret h) fun E σ H h => ?_
  obtain ⟨R, G, ρ, r, ρ', rp, e, k⟩ := h
  unfold xRet at e
  rw [Option.map_eq_some_iff] at e
  obtain ⟨⟨f, ρ1⟩, h1, e⟩ := e
  refine ⟨R, G, ρ, f, ρ1, rp, h1, ?_⟩
  cases f with
  | ok d => cases e; exact fun G' H' v s r dv => k G' H' σ v s r (.refl _ _) dv
  | er z => cases e; exact fun G' H' s r => k G' H' σ s r (.refl _ _)
theorem xs_expr {e : Expr} {m : MX} (h : PE X e (tZE X.K cm Wx m)) (hs : swapsWith e none pos.line X.env = pure false := by rfl) : PS X (.Expr e pos) (tZS X.K cm Wx [] (xDrop m)) := by
  refine PS.imp (ps_expr h hs) fun E σ H h => ?_
  obtain ⟨R, G, ρ, r, ρ', rp, e, k⟩ := h
  unfold xDrop at e
  rw [Option.map_eq_some_iff] at e
  obtain ⟨⟨f, ρ1⟩, h1, e⟩ := e
  refine ⟨R, G, ρ, f, ρ1, rp, h1, ?_⟩
  cases f with
  | ok d => cases e; exact fun G' H' v s r dv => k G' H' σ s r (.refl _ _)
  | er z => cases e; exact fun G' H' s r => k G' H' σ s r (.refl _ _)
theorem xe_call {x : Str} {k : Nat} {f : Addr} {fd : FuncData} {ps : List Str} {F : List D → Option (Ex D)} {n : Nat} {e : Expr} {es : List Expr} {m : M (List D)} (tk : Takes X Wx)
    (FO : FnOk X.prog X.w X.K X.mg X.base (L2.CX X.prog X.w) k f fd ps (spX X.K cm F n)) (hr : Room k X.A) (hm : X.mg x = some (.ref f)) (hk : PySem.W.keepIn X.K (.ref f) = true) (hb : Binds X.K fd ps [])
    (ha : QA X (e :: es) m) (hF : ∀ ds d, F ds = some d → ds.length = n := by exact runX_len) (hg : Gl X x := by rfl) (hdb : (x == ("__debug__" : Str)) = false := by decide) (he : starEach (e :: es) X.env = (false, eval e X.env) :: starEach es X.env := by rfl) (hpl : (backTo pos (starEach es X.env)).any (·.1) = false := by rfl) :
    PE X (.Call (.Name x p) (e :: es) [] pos) (tZE X.K cm Wx (xApp F m)) := by
  refine PE.imp (pe_callS (E := WE Wx) FO hr hg hm hk hb (fun σ => passAt tk σ) ha hdb he hpl) fun σ H Q h => ?_
  obtain ⟨R, G, ρ, y, ρ', rp, e, kk⟩ := h
  unfold xApp at e
  rw [Option.bind_eq_some_iff] at e
  obtain ⟨⟨ds, ρ1⟩, hmm, e⟩ := e
  rw [Option.map_eq_some_iff] at e
  obtain ⟨r, h2, e⟩ := e
  cases e
  refine ⟨R, G, ρ, ds, ρ1, rp, hmm, fun G1 H1 v1 s1 r1 d1 => ⟨?_, G1, ds, y, r1.subG, d1, h2, ?_⟩⟩
  · rw [d1.length]; exact hF _ _ h2
  · cases y with
    | ok d => exact fun G2 H2 v g2 dv => kk G2 H2 v (s1.trans g2.gg) (r1.grow g2) dv
    | er z => exact fun G2 H2 g2 => kk G2 H2 (s1.trans g2.gg) (r1.grow g2)
end
/-- a def that may raise -/
theorem fnX {P : Program} {w : World} {K : Fr} {mg : Str → Option Value} {base : Heap} {x qual : Str} {st : Stmt} {f : Addr} {fd : FuncData} {N ps : List Str} {k : Nat} {cm : Str → Value} {W : List Nat} {body : MXS} (F : Fun K x qual st f fd) (S : FnScope N ps (defScope st))
    (h : ∀ (cdv : Value) (A : Around) (outer : List Env) (s : Shared) (H : Hp) (E : XK), Room k (A.deeper (envOfC qual (defScope st) s.heap.objs.size f cdv)) → PSs (cxOf (L2.CX P w) P w K mg base N qual (defScope st) f cdv A outer s H E) (defBody st) (tZS K cm (fun cls d _ H => E cls d H) W body)) :
    FnOk P w K mg base (L2.CX P w) (k + 1) f fd ps (spX K cm (runX ps.length N.length body) ps.length) := by
  refine F.okX S (fun vs H Q E h => h.1) (fun cdv A outer s H vs Q E hr hsp => ⟨_, h cdv A outer s H E hr, ?_⟩)
  obtain ⟨hl, G, ds, y, sG, dd, e, k⟩ := hsp
  unfold runX at e
  split at e
  · rename_i hn
    let R : Hp := fun a => if G a = none then H a else none
    have hR : ∀ a o, R a = some o → G a = none ∧ H a = some o := fun a o q => by
      by_cases z : G a = none
      · exact ⟨z, by have := q; simp only [R, z, if_true] at this; exact this⟩
      · have := q; simp only [R, z, if_false] at this; cases this
    have hRi : ∀ a o, G a = none → H a = some o → R a = some o := fun a o z q => by simp only [R, z, if_true]; exact q
    have rep0 : Rep K R G H (ds.map Sl.dat ++ List.replicate (N.length - ps.length) Sl.un) (L2.start N vs) := by
      refine ⟨?_, fun a o q => (hR a o q).2, sG, fun a o q => (hR a o q).1, fun i s hs => ?_, fun i j c c' p h1 h2 _ _ => ?_⟩
      · simp [L2.start, dd.length, ← hn]
      · by_cases hi : i < ds.length
        · rw [List.getElem?_append_left (by simpa using hi), List.getElem?_map] at hs
          rw [List.getElem?_eq_getElem hi] at hs
          cases hs
          obtain ⟨v, hv, dv⟩ := dd.get (List.getElem?_eq_getElem hi)
          refine ⟨v, ?_, dv⟩
          show (vs.map some ++ _)[i]? = _
          rw [List.getElem?_append_left (by rw [List.length_map, dd.length]; exact hi), List.getElem?_map, hv]
          rfl
        · rw [List.getElem?_append_right (by simpa using hi), List.getElem?_replicate] at hs
          split at hs
          · cases hs; trivial
          · cases hs
      · exfalso
        by_cases hi : i < ds.length
        · rw [List.getElem?_append_left (by simpa using hi), List.getElem?_map, List.getElem?_eq_getElem hi] at h1
          cases h1
        · rw [List.getElem?_append_right (by simpa using hi), List.getElem?_replicate] at h1
          split at h1 <;> cases h1
    have fin : ∀ G' H' (σ' : St) (ρ' : Ro), Same G G' → Rep K R G' H' ρ' σ' → Gr G H G' H' := fun G' H' σ' ρ' s r => by
      refine ⟨fun a o q => ?_, s, r.subG, fun a o q1 q2 => ?_⟩
      · cases z : G a with
        | none => exact r.subR a o (hRi a o z q)
        | some u =>
          have := sG a u z
          rw [q] at this
          cases this
          exact r.subG a _ (s a _ z)
      · cases z : H a with
        | none => rfl
        | some u =>
          have := r.dis a u (hRi a u q1 z)
          rw [q2] at this; cases this
    rw [Option.bind_eq_some_iff] at e
    obtain ⟨⟨fl, ρ'⟩, q, e⟩ := e
    refine ⟨R, G, _, fl, ρ', rep0, q, ?_⟩
    cases fl with
    | er z => cases e; exact fun G' H' σ' s r _ => k G' H' (fin G' H' σ' _ s r)
    | ok fl =>
      cases fl with
      | nx => cases e; exact fun G' H' σ' s r _ => k G' H' _ (fin G' H' σ' _ s r) .non
      | bk => cases e
      | ct => cases e
      | rt d => cases e; exact fun G' H' σ' v s r _ dv => k G' H' v (fin G' H' σ' _ s r) dv
  · cases e

/-! ### isinstance of the exception that is handled -/
def eIsE (i : Nat) (a : Addr) (b : Bool) : M D := fun ρ => match ρ[i]? with
  | some (.ref (.adr c)) => if c = a then some (.bool b, ρ) else none
  | _ => none
section
variable {X : Cx} {pos p p1 p2 : Pos}
theorem call_isP {a C : Addr} {oe : Obj} (EC : ExcC X.K C) (hp : (a, oe) ∈ X.pn) (hz : Zc (.ref C) none oe) (hf : ∃ vs, oe.data = .fields vs) : CallR X (.builtin "isinstance") (rIsE X.K C a) := by
  intro pins s σ H xs us Q I rel want
  obtain ⟨c, cv, b, rfl, only, kit, q⟩ := want
  cases rel with
  | cons r1 rel =>
    cases rel with
    | cons r2 rel =>
      cases rel
      cases r1
      cases only _ r2
      have there := (I.pin (a, oe) (List.mem_append_left _ hp)).1
      obtain ⟨vs, hv⟩ := hf
      have inst : PySem.W.InstAt s.heap a oe C none := by
        obtain ⟨o1, o2, o3, o4⟩ := oe
        obtain ⟨z1, z2⟩ := hz
        dsimp only at z1 z2 hv
        subst z1 z2 hv
        exact ⟨there, rfl, rfl, trivial⟩
      exact PySem.W.kia_one (PySem.W.handS_kitx_exc EC.hg EC.hk EC.hs EC.hd EC.ha EC.hn EC.ht EC.hm) I.kIn inst kit (fun z => nomatch z) fun tk => ⟨.bl b, H, I.kept (t' := tk) fun _ _ z => z, rfl, q⟩
theorem qe_isE (i : Nat) {a C : Addr} {oe : Obj} (EC : ExcC X.K C) (hp : (a, oe) ∈ X.pn) (hz : Zc (.ref C) none oe) (hf : ∃ vs, oe.data = .fields vs) {x T : Str} {c : V} {cv : Value} {b : Bool} (hT : PE X (.Name T p2) (tC c)) (hc : ∀ u, RelV c u → u = cv) (hb : PySem.W.kitOne X.K (.ref C) cv = some b) (hm : X.mg "isinstance" = none)
    (hN : X.N[i]? = some x := by rfl) (hv : Vis X.env.scope x := by first | exact Or.inl rfl | exact Or.inr (Or.inl rfl) | exact Or.inr (Or.inr rfl)) (hd : (x == ("__debug__" : Str)) = false := by decide) (hcd : (x == ("__classdict__" : Str)) = false := by decide) (hg : Gl X "isinstance" := by rfl)
    (h1 : starEach [.Name T p2] X.env = (false, eval (.Name T p2) X.env) :: starEach [] X.env := by rfl) (h2 : starEach [.Name x p1, .Name T p2] X.env = (false, eval (.Name x p1) X.env) :: starEach [.Name T p2] X.env := by rfl) (hpl : (backTo pos (starEach [.Name T p2] X.env)).any (·.1) = false := by rfl) :
    QE X (.Call (.Name "isinstance" p) [.Name x p1, .Name T p2] [] pos) (eIsE i a b) := by
  refine PE.imp (pe_callB (call_isP EC hp hz hf) hg hm (by decide +kernel) (pa_cons (pe_var hN hv hd hcd) (pa_cons hT pa_nil h1) h2) (by decide) (by decide) h2 hpl) fun σ H Q h => ?_
  obtain ⟨R, G, ρ, d, ρ', rp, e, k⟩ := h
  unfold eIsE at e
  split at e
  · rename_i c' hs
    split at e
    · rename_i hc'
      subst hc'
      cases e
      have so := rp.slot i _ hs
      exact ⟨.ref c', so, c, cv, b, rfl, hc, hb, k G H _ (.refl _) rp (.bl b)⟩
    · cases e
  · cases e
end
/-! ### count and index of True in one's own list -/
def boolsOf : List D → Option (List Bool)
  | [] => some []
  | .bool b :: ds => (boolsOf ds).map fun bs => b :: bs
  | _ :: _ => none
theorem boolsOf_map : ∀ (ds : List D) (bs : List Bool), boolsOf ds = some bs → ds = bs.map PyData.bool
  | [], bs, h => by cases h; rfl
  | d :: ds, bs, h => by
    cases d with
    | bool b =>
      unfold boolsOf at h
      rw [Option.map_eq_some_iff] at h
      obtain ⟨cs, h1, h2⟩ := h
      subst h2
      rw [boolsOf_map ds cs h1]
      rfl
    | _ => cases h
theorem dqBools {K : Fr} {G : Hp} : ∀ {vs : List V} {bs : List Bool}, DqAll K G vs (bs.map PyData.bool) → vs = bs.map V.bl
  | [], [], _ => rfl
  | v :: vs, b :: bs, h => by
    cases h with
    | cons a r =>
      cases a
      rw [dqBools r]
      rfl
theorem flat_bools : ∀ bs : List Bool, (bs.map V.bl).all flatV = true
  | [] => rfl
  | b :: bs => by rw [List.map_cons, List.all_cons, flat_bools bs]; rfl
def eCountT (i : Nat) (a : M D) : M D := fun ρ => (ownL ρ i).bind fun _ => (a ρ).bind fun p => (ownL p.2 i).bind fun ds => match p.1 with
  | .bool true => (boolsOf ds).map fun bs => (.int (bs.count true : Nat), p.2)
  | _ => none
def eIndexT (i : Nat) (a : M D) : M D := fun ρ => (ownL ρ i).bind fun _ => (a ρ).bind fun p => (ownL p.2 i).bind fun ds => match p.1 with
  | .bool true => (boolsOf ds).bind fun bs => if true ∈ bs then some (.int (bs.idxOf true : Nat), p.2) else none
  | _ => none
section
variable {X : Cx} {a : Expr} {p apos cpos : Pos} {x : Str}
def rCntB (K : Fr) : V → List V → Hp → VK → Prop := fun x xs H Q => ∃ (q : Addr) (bs : List Bool), x = .ref q ∧ xs = [.bl true] ∧ SqL K H q (bs.map V.bl) ∧ Q (.int (bs.count true : Nat)) H
theorem cntB : ∀ {bs : List Bool} {its : List Value}, Vals (bs.map V.bl) its → its.countP (eqU (.bl true)) = bs.count true
  | [], _, .nil => rfl
  | b :: bs, _, .cons r t => by
    cases r
    rw [List.countP_cons, cntB t, List.count_cons]
    cases b <;> rfl
theorem mt_lcountB : MtR X "list.count" (rCntB X.K) := by
  intro pins s σ H x xs v us Q I rx rxs h
  obtain ⟨q, bs, rfl, rfl, hs, k⟩ := h
  cases rx
  cases rxs with
  | cons ry rt =>
    cases rt
    cases ry
    obtain ⟨its, rv, ⟨⟨cls, dd, data, sl⟩, n, ho, hc, hdn, hd⟩, hlen⟩ := I.list hs
    simp only at hc hd
    subst hc hd
    refine call_meets PySem.F.slot_list_count ⟨_, ho, rfl⟩ PySem.F.entry_list_count (PySem.F.args_list_count_2 _ _)
      (SeqAt.list_countAt q its.toArray n dd sl (.bool true) (eqU (.bl true))) ⟨ho, fun u' hu' => mem_eqAt (x := .bl true) rfl rfl rv (flat_bools bs) u' (by simpa using hu'), ?_⟩
    have ec : its.toArray.toList.countP (eqU (.bl true)) = bs.count true := by
      have e0 : its.toArray.toList = its := by simp
      rw [e0]; exact cntB rv
    refine ⟨.int (bs.count true : Nat), H, I.tok _, ⟨s.toks, ?_⟩, k⟩
    rw [ec]
theorem qe_countT (i : Nat) {m : M D} (ha : QE X a m) (hN : X.N[i]? = some x := by rfl) (hv : Vis X.env.scope x := by first | exact Or.inl rfl | exact Or.inr (Or.inl rfl) | exact Or.inr (Or.inr rfl)) (hd : (x == ("__debug__" : Str)) = false := by decide) (hcd : (x == ("__classdict__" : Str)) = false := by decide)
    (hbase : attributeBase (.Name x p) "count" X.env (eval (.Name x p) X.env) = eval (.Name x p) X.env := by rfl)
    (hfew : ((backTo cpos (starEach [a] X.env)).all (fun x => !x.1) && (backToKw cpos (keywordEach [] X.env)).all (fun x => x.1.isSome)
      && decide ([a].length + ([] : List Keyword).length + (if ([] : List Keyword).isEmpty then 0 else 1) < 30)) = true := by rfl)
    (hline : (apos.endLine == cpos.line) = true := by rfl) (hs : starEach [a] X.env = (false, eval a X.env) :: starEach [] X.env := by rfl) (hplain : (backTo cpos (starEach [] X.env)).any (·.1) = false := by rfl) :
    QE X (.Call (.Attribute (.Name x p) "count" apos) [a] [] cpos) (eCountT i m) := by
  refine PE.imp (pe_bm PySem.F.plainAttrs_list PySem.F.slot_list_count PySem.F.type_list_count mt_lcountB (pe_var hN hv hd hcd) (pa_cons ha pa_nil hs) hbase hfew hline hs hplain) fun σ H Q h => ?_
  obtain ⟨R, G, ρ, d, ρ', rp, e, k⟩ := h
  unfold eCountT at e
  rw [Option.bind_eq_some_iff] at e
  obtain ⟨ds0, h0, e⟩ := e
  rw [Option.bind_eq_some_iff] at e
  obtain ⟨⟨y, ρ1⟩, h1, e⟩ := e
  rw [Option.bind_eq_some_iff] at e
  obtain ⟨ds, h2, e⟩ := e
  split at e
  · rename_i hy
    simp only at hy
    subst hy
    rw [Option.map_eq_some_iff] at e
    obtain ⟨bs, hb, e⟩ := e
    cases e
    obtain ⟨q, vs0, eq0, hq0, _⟩ := rp.ownAt (ownL_some h0)
    refine ⟨.ref q, eq0, .inl ⟨rfl, _, SqL.of hq0⟩, R, G, ρ, _, ρ1, rp, h1, fun G1 H1 v1 s1 r1 d1 => ?_⟩
    obtain ⟨q', vs, eq, hq, dv⟩ := r1.ownAt (ownL_some h2)
    rw [eq0] at eq
    cases eq
    cases d1
    rw [boolsOf_map ds bs hb] at dv
    rw [dqBools dv] at hq
    exact ⟨_, bs, rfl, rfl, SqL.of hq, k G1 H1 _ s1 r1 (.int _)⟩
  · cases e
theorem before_true : ∀ (bs : List Bool) (m : Nat) (z : Bool), m < bs.idxOf true → bs[m]? = some z → z = false
  | [], m, z, h, _ => by simp at h
  | b :: bs, m, z, h, e => by
    cases b with
    | true => simp at h
    | false =>
      have hq : (false == true) = false := rfl
      rw [List.idxOf_cons, hq] at h
      simp only [cond_false] at h
      cases m with
      | zero => simp at e; exact e
      | succ m => exact before_true bs m z (by omega) (by simpa using e)
theorem qe_indexT (i : Nat) {m : M D} (ha : QE X a m) (hN : X.N[i]? = some x := by rfl) (hv : Vis X.env.scope x := by first | exact Or.inl rfl | exact Or.inr (Or.inl rfl) | exact Or.inr (Or.inr rfl)) (hd : (x == ("__debug__" : Str)) = false := by decide) (hcd : (x == ("__classdict__" : Str)) = false := by decide)
    (hbase : attributeBase (.Name x p) "index" X.env (eval (.Name x p) X.env) = eval (.Name x p) X.env := by rfl)
    (hfew : ((backTo cpos (starEach [a] X.env)).all (fun x => !x.1) && (backToKw cpos (keywordEach [] X.env)).all (fun x => x.1.isSome)
      && decide ([a].length + ([] : List Keyword).length + (if ([] : List Keyword).isEmpty then 0 else 1) < 30)) = true := by rfl)
    (hline : (apos.endLine == cpos.line) = true := by rfl) (hs : starEach [a] X.env = (false, eval a X.env) :: starEach [] X.env := by rfl) (hplain : (backTo cpos (starEach [] X.env)).any (·.1) = false := by rfl) :
    QE X (.Call (.Attribute (.Name x p) "index" apos) [a] [] cpos) (eIndexT i m) := by
  refine PE.imp (pe_bm PySem.F.plainAttrs_list PySem.F.slot_list_index PySem.F.type_list_index mt_index (pe_var hN hv hd hcd) (pa_cons ha pa_nil hs) hbase hfew hline hs hplain) fun σ H Q h => ?_
  obtain ⟨R, G, ρ, d, ρ', rp, e, k⟩ := h
  unfold eIndexT at e
  rw [Option.bind_eq_some_iff] at e
  obtain ⟨ds0, h0, e⟩ := e
  rw [Option.bind_eq_some_iff] at e
  obtain ⟨⟨y, ρ1⟩, h1, e⟩ := e
  rw [Option.bind_eq_some_iff] at e
  obtain ⟨ds, h2, e⟩ := e
  split at e
  · rename_i hy
    simp only at hy
    subst hy
    rw [Option.bind_eq_some_iff] at e
    obtain ⟨bs, hb, e⟩ := e
    split at e
    · rename_i hm
      cases e
      obtain ⟨q, vs0, eq0, hq0, _⟩ := rp.ownAt (ownL_some h0)
      refine ⟨.ref q, eq0, .inl ⟨rfl, _, SqL.of hq0⟩, R, G, ρ, _, ρ1, rp, h1, fun G1 H1 v1 s1 r1 d1 => ?_⟩
      obtain ⟨q', vs, eq, hq, dv⟩ := r1.ownAt (ownL_some h2)
      rw [eq0] at eq
      cases eq
      cases d1
      rw [boolsOf_map ds bs hb] at dv
      rw [dqBools dv] at hq
      have hlt := List.idxOf_lt_length_of_mem hm
      refine ⟨q, bs.map V.bl, .bl true, bs.idxOf true, .bl true, rfl, rfl, SqL.of hq, rfl, flat_bools bs, ?_, rfl, fun l z hl hz => ?_, k G1 H1 _ s1 r1 (.int _)⟩
      · rw [List.getElem?_map, List.getElem?_eq_getElem hlt, List.getElem_idxOf hlt]
        rfl
      · rw [List.getElem?_map] at hz
        cases hz2 : bs[l]? with
        | none => rw [hz2] at hz; cases hz
        | some z' =>
          rw [hz2] at hz
          cases hz
          rw [before_true bs l z' hl hz2]
          rfl
    · cases e
  · cases e
end

/-! ### a def that is told the handled exception -/
theorem _root_.L2H.RoomH.units {k : Nat} {A : Around} (r : RoomH k A) : A.units + 64 < cLine := by have := r.un; omega
structure FnW (P : Program) (w : World) (K : Fr) (mg : Str → Option Value) (base : Heap) (k : Nat) (f : Addr) (fd : FuncData) (x : Str) (C : Addr) (d : D) : Prop where
  run : ∀ (A : Around) (outer : List Env) (s : Shared) (H G : Hp) (args : Args) (a : Addr) (oe : Obj) (Q : VK), RoomH k A → PinOk outer H s (a, oe) → Zc (.ref C) none oe → (∃ vs, oe.data = .fields vs) → Env0 P w K mg base A outer s H → BindsTo s fd args [(x, .ref a)] → Same G H →
    (∀ G' H' v, Gr G H G' H' → Dq K G' v d → Q v H') → codeAny (model P w) A (.call (.ref f) args) (CR CX0 outer P w H s Q fun _ _ _ => False) s
theorem fnW {P : Program} {w : World} {K : Fr} {mg : Str → Option Value} {base : Heap} {nm qual x : Str} {st : Stmt} {f C : Addr} {fd : FuncData} {N : List Str} {k : Nat} {W : List Nat} {body : Addr → MS} {d : D} (F : Fun K nm qual st f fd) (S : FnScope N [x] (defScope st))
    (h : ∀ (cdv : Value) (A : Around) (outer : List Env) (s : Shared) (H : Hp) (E : XK) (a : Addr) (oe : Obj), RoomH k (A.deeper (envOfC qual (defScope st) s.heap.objs.size f cdv)) → Zc (.ref C) none oe → (∃ vs, oe.data = .fields vs) → QSs (cxH CX0 P w K mg base N qual (defScope st) f cdv A outer s H E (a, oe)) W (defBody st) (body a))
    (hb : ∀ a, ∃ ρ', body a (Sl.ref (.adr a) :: List.replicate (N.length - 1) Sl.un) = some (.rt d, ρ')) : FnW P w K mg base (k + 1) f fd x C d := by
  obtain ⟨oc, od, kV, doc, pm, an, cdv, ct, osl, rfl, lk, hcd⟩ := F.ex
  refine ⟨fun A outer s H G args a oe Q hr hpin hz hf e0 bind sG want => ?_⟩
  have inK : K.In s.heap := e0.mod.kin.keeps fun b o e => (e0.bs b o e).1
  have noL : s.heap.NoLimit := e0.mod.nolimit.keeps fun b o e => (e0.bs b o e).1
  have kinds : ∀ y ∈ [(x, Value.ref a)], (defScope st).names.lookup y.1 = some .local ∨ ((defScope st).names.lookup y.1 = some .cell ∧ ((cellsFrom (s.heap.objs.size + 1) (defScope st).names []).lookup y.1).isSome = true) := fun y hy => by
    have ey : y = (x, Value.ref a) := by simpa using hy
    subst ey
    exact (S.par x (by simp)).imp id fun q => ⟨q, PySem.W.cellsFrom_some _ _ _ (.inl q)⟩
  refine codeAny_call_function hr.depth (inK _ _ lk) rfl S.co S.gen rfl (PySem.W.codeRec_of inK hcd) (bind _ _ _ _ (wpAny_newFunctionEnv_cells S.kind kinds fun env he s1 x1 => ?_))
  subst he
  refine ⟨noL.keeps x1.toInCall.keep, codeAny_func ?_⟩
  have I : Inv (cxH CX0 P w K mg base N qual (defScope st) f cdv A outer s H (fun _ _ _ => False) (a, oe)) [] (L2.start N [V.ref a]) H s1 := inv_startH (us := [Value.ref a]) S hpin e0 rfl (.cons rfl .nil) x1
  let R : Hp := fun b => if G b = none then H b else none
  have hR : ∀ b o, R b = some o → G b = none ∧ H b = some o := fun b o q => by
    by_cases z : G b = none
    · exact ⟨z, by have := q; simp only [R, z, if_true] at this; exact this⟩
    · have := q; simp only [R, z, if_false] at this; cases this
  have hRi : ∀ b o, G b = none → H b = some o → R b = some o := fun b o z q => by simp only [R, z, if_true]; exact q
  have hNl : 1 ≤ N.length := by
    have := congrArg List.length S.pre
    rw [List.length_take] at this
    simp at this
    omega
  have rep0 : Rep K R G H (Sl.ref (.adr a) :: List.replicate (N.length - 1) Sl.un) (L2.start N [V.ref a]) := by
    refine ⟨?_, fun b o q => (hR b o q).2, sG, fun b o q => (hR b o q).1, fun i t ht => ?_, fun i j c c' p h1 h2 _ _ => ?_⟩
    · simp [L2.start]
    · cases i with
      | zero => simp at ht; subst ht; exact rfl
      | succ i =>
        rw [List.getElem?_cons_succ, List.getElem?_replicate] at ht
        split at ht
        · cases ht; trivial
        · cases ht
    · exfalso
      cases i with
      | zero => simp at h1
      | succ i =>
        rw [List.getElem?_cons_succ, List.getElem?_replicate] at h1
        split at h1 <;> cases h1
  obtain ⟨ρ', eb⟩ := hb a
  refine wpAny_mono ((h cdv A outer s H (fun _ _ _ => False) a oe (hr.deeper _) hz hf).run [] s1 (L2.start N [V.ref a]) H { nx := fun _ H' => Q .non H', rt := Q } I ⟨R, G, _, .rt d, ρ', rep0, eb, fun G' H' σ' v sg r _ dv => want G' H' v ?_ dv⟩) (fun fl s' hs => ?_) fun e s' hs => hs
  · refine ⟨fun b o q => ?_, sg, r.subG, fun b o q1 q2 => ?_⟩
    · cases z : G b with
      | none => exact r.subR b o (hRi b o z q)
      | some u =>
        have := sG b u z
        rw [q] at this
        cases this
        exact r.subG b _ (sg b _ z)
    · cases z : H b with
      | none => rfl
      | some u =>
        have := r.dis b u (hRi b u q1 z)
        rw [q2] at this; cases this
  · cases fl with
    | ret u =>
      obtain ⟨v, σ', H', J, rv, q⟩ := hs
      exact ⟨v, H', J.os, J.bare, J.base, J.hok, rv, q⟩
    | next =>
      obtain ⟨σ', H', J, q⟩ := hs
      exact ⟨.non, H', J.os, J.bare, J.base, J.hok, rfl, q⟩
    | brk => exact (let ⟨_, _, _, q⟩ := hs; False.elim q)
    | cont => exact (let ⟨_, _, _, q⟩ := hs; False.elim q)
section
variable {X : Cx} {pos p p1 : Pos}
theorem pe_callW {y x n : Str} {k i : Nat} {f C a : Addr} {oe : Obj} {fd : FuncData} {d : D} (F : FnW X.prog X.w X.K X.mg X.base k f fd x C d) (hr : RoomH k X.A) (hp : (a, oe) ∈ X.pn) (hz : Zc (.ref C) none oe) (hf : ∃ vs, oe.data = .fields vs) (hm : X.mg y = some (.ref f)) (hk : PySem.W.keepIn X.K (.ref f) = true) (hb : Binds X.K fd [x] [])
    (hg : Gl X y) (hN : X.N[i]? = some n) (hv : Vis X.env.scope n) (hd : (n == ("__debug__" : Str)) = false) (hcd : (n == ("__classdict__" : Str)) = false) (hdb : (y == ("__debug__" : Str)) = false)
    (he : starEach [.Name n p1] X.env = (false, eval (.Name n p1) X.env) :: starEach [] X.env) (hpl : (backTo pos (starEach [] X.env)).any (·.1) = false) :
    PE X (.Call (.Name y p) [.Name n p1] [] pos) (fun σ H Q => σ[i]? = some (some (.ref a)) ∧ ∃ G, Same G H ∧ ∀ G' H' v, Gr G H G' H' → Dq X.K G' v d → Q v H') := by
  refine ⟨fun pins s σ H Q I want => ?_⟩
  obtain ⟨hi, G, sG, want⟩ := want
  refine wpAny_Call_Name_kw (ld_glob I hg hm ?_ hdb)
  have ha : PA X [.Name n p1] (tCons (tVar i) tNil) := pa_cons (pe_var hN hv hd hcd) pa_nil he
  refine PySem.W.callWith_K (h₀ := X.base) I.ok.mod.kin hk (thn (ha.run pos pins s σ H (fun vs H1 => vs = [V.ref a] ∧ H1 = H) I ⟨_, hi, rfl, rfl⟩) fun us s1 hh => ?_) he hpl
  obtain ⟨vs, H1, J, rel, rfl, rfl⟩ := hh
  refine ⟨J.kIn, ?_⟩
  cases rel with
  | cons r1 rel =>
    cases rel
    cases r1
    have bnd := hb s1 [Value.ref a] J.kIn rfl
    obtain ⟨g1, g2, g3, g4, g5⟩ := J.pin (a, oe) (List.mem_append_left _ hp)
    refine wpAny_call (codeAny_mono (F.run X.A X.stack s1 H1 G ⟨[.ref a], []⟩ a oe Q hr ⟨g1, g2, fun hm => (List.mem_cons.mp (J.stkSub a hm)).elim g3 g4, g5⟩ hz hf J.env0 bnd sG want) fun r s' hq => ?_)
    cases r with
    | error e => exact False.elim hq
    | ok fl =>
      cases fl with
      | ret u => exact J.after hq
      | next => exact False.elim hq
      | brk => exact False.elim hq
      | cont => exact False.elim hq
/-- try: .. except y as n: return which(n) -/
def sTryW (i : Nat) (m : MXS) (Wh : Str → Option D) : MS := fun ρ => (m ρ).bind fun p => match p.1 with
  | .ok f => some (f, p.2)
  | .er z => if i < p.2.length then (Wh z).map fun d => (.rt d, p.2.set i .un) else none
theorem qs_tryW (i : Nat) {y n x g : Str} {c : Value} {k : Nat} {f : Addr} {fd : FuncData} {cm : Str → Value} {m : MXS} {Wh : Str → Option D} {body : List Stmt} {np hpos pos pr pc pg pn' : Pos} {W : List Nat}
    (FW : ∀ z d, Wh z = some d → ∃ C, cm z = .ref C ∧ FnW X.prog X.w X.K X.mg X.base k f fd x C d) (hr : Room k X.A) (hm : X.mg g = some (.ref f)) (hk : PySem.W.keepIn X.K (.ref f) = true) (hb : Binds X.K fd [x] [])
    (hnd : X.N.Nodup) (hn : Names X y c) (hall : ∀ z d, Wh z = some d → PySem.W.exmOne X.K (cm z) c = some true)
    (hbd : ∀ pn xe Wx, Takes (X.tr pn xe) Wx → PSs (X.tr pn xe) body (tZS X.K cm Wx W m))
    (hN : X.N[i]? = some n := by rfl) (hln : X.env.kindOf n = some .local := by rfl) (hs : X.stack = X.env :: X.outer := by rfl) (hf : X.env.frame = some X.env.locals := by rfl) (hg : Gl X g := by rfl) (hd : (n == ("__debug__" : Str)) = false := by decide) (hcd : (n == ("__classdict__" : Str)) = false := by decide) (hdb : (g == ("__debug__" : Str)) = false := by decide)
    (he : starEach [.Name n pn'] X.env = (false, eval (.Name n pn') X.env) :: starEach [] X.env := by rfl) (hpl : (backTo pc (starEach [] X.env)).any (·.1) = false := by rfl) :
    QS X (W ++ [i]) (.Try body [.ExceptHandler (some (.Name y np)) (some n) [.Return (some (.Call (.Name g pg) [.Name n pn'] [] pc)) pr] hpos] [] [] pos) (sTryW i m Wh) := by
  have key := ps_try_as (X := X) (x := y) (n := n) (c := c) (i := i) (body := body) (suite := []) (b₀ := .Return (some (.Call (.Name g pg) [.Name n pn'] [] pc)) pr) (np := np) (pos := pos) (pos' := hpos) (Wout := fun _ _ _ _ => False)
    (tb := fun Wx => tZS X.K cm Wx W m) (ts := fun a cls d => fun E σ H => σ[i]? = some (some (.ref a)) ∧ ∃ z dv, cls = cm z ∧ Wh z = some dv ∧ d = none ∧ ∃ G, Same G H ∧ ∀ G' H' v, Gr G H G' H' → Dq X.K G' v dv → E.rt v H') hs hf hnd hN hln hn takes0
    (fun Wx pn xe tk _ => hbd pn xe Wx tk)
    (fun a oe cls d pn hz hfl => ⟨fun pins s σ H E I want => by
      obtain ⟨hi, z, dv, ec, ew, ed, G, sG, want⟩ := want
      subst ec ed
      obtain ⟨C, eC, F1⟩ := FW z dv ew
      rw [eC] at hz
      have call := pe_callW (X := X.suite a ((a, oe) :: pn)) (i := i) (pos := pc) (p := pg) (p1 := pn') F1 ⟨hr.dp, hr.un⟩ List.mem_cons_self hz hfl hm hk hb hg hN (.inl hln) hd hcd hdb he hpl
      exact (pss_one (ps_ret call)).run pins s σ H E I ⟨hi, G, sG, want⟩⟩)
  refine PS.imp key fun E σ H h => ?_
  obtain ⟨R, G, ρ, fl, ρ', rp, e, kk⟩ := h
  unfold sTryW at e
  rw [Option.bind_eq_some_iff] at e
  obtain ⟨⟨r, ρ1⟩, h1, e⟩ := e
  refine ⟨R, G, ρ, r, ρ1, rp, h1, ?_⟩
  cases r with
  | ok f => cases e; exact flQ_mono kk (.refl _) fun σ' z => z.mono fun j hj => List.mem_append_left _ hj
  | er z =>
    simp only at e
    split at e
    case isFalse => cases e
    rename_i hl
    rw [Option.map_eq_some_iff] at e
    obtain ⟨dv, ew, e⟩ := e
    cases e
    intro G1 H1 σ1 s1 r1 f1
    refine ⟨true, hall z dv ew, fun _ a na => ⟨?_, z, dv, rfl, ew, rfl, G1, r1.subG, fun G2 H2 v g2 dq => ?_⟩, fun z => by cases z⟩
    · rw [List.getElem?_set_self (by rw [← r1.len]; exact hl)]
    · exact kk G2 H2 (σ1.set i none) v (s1.trans g2.gg) ((r1.grow g2).forget i none) (fun j hj => by rw [List.getElem?_set_ne (fun z => hj (List.mem_append_right _ (by simp [z]))), f1 j fun z => hj (List.mem_append_left _ z)]) dq
end
/-! ### len(set(xs)), xs a list of whole numbers -/
def setLen (ns : List Int) : Nat := (ns.foldl PyProof.Rows.step_dedup []).length
theorem range_getD (ns : List Int) : (List.range ns.length).map (fun i => ns.getD i 0) = ns := by
  apply List.ext_getElem?
  intro i
  rw [List.getElem?_map]
  by_cases h : i < ns.length
  · rw [List.getElem?_range h, List.getElem?_eq_getElem h, Option.map_some, List.getD_eq_getElem?_getD, List.getElem?_eq_getElem h]
    rfl
  · rw [List.getElem?_eq_none (by simpa using h), List.getElem?_eq_none (by simpa using h)]
    rfl
theorem firstMet_len (ns : List Int) : (PyProof.Rows.firstMet (fun i => ns.getD i 0) ns.length).length = setLen ns := by
  unfold PyProof.Rows.firstMet setLen
  rw [range_getD]
def dLenSet : D → Option D
  | .list ds => (intsOf ds).bind fun ns => if ns.length < 64 then some (.int (setLen ns : Nat)) else none
  | _ => none
section
variable {X : Cx} {a : Expr} {p p2 q pos : Pos}
theorem qe_lenSet {m : M D} (ha : QE X a m) (hm : X.mg "len" = none) (hm2 : X.mg "set" = none) (hg : Gl X "len" := by rfl) (hg2 : Gl X "set" := by rfl) (hc : X.calm = true := by rfl)
    (na : starEach [a] X.env = (false, eval a X.env) :: starEach [] X.env := by rfl) : QE X (.Call (.Name "len" p) [.Call (.Name "set" p2) [a] [] q] [] pos) (eOp1 dLenSet m) := by
  refine ⟨fun pins s σ H Q I want => ?_⟩
  obtain ⟨R, G, ρ, d, ρ', rp, e, k⟩ := want
  unfold eOp1 at e
  rw [Option.bind_eq_some_iff] at e
  obtain ⟨⟨x, ρ1⟩, h1, e⟩ := e
  rw [Option.map_eq_some_iff] at e
  obtain ⟨z, h2, e⟩ := e
  cases e
  refine Call_ (ld_blt I hg hm PySem.boot_len (PyProof.Rows.callWith_builtin1 (PyProof.Rows.args_cons ?_ rfl) rfl rfl))
  refine Call_ (ld_blt I hg2 hm2 PyProof.Rows.boot_set (PyProof.Rows.callWith_type1 (PyProof.Rows.args_cons (thn (ha.run pins s σ H (fun v H1 => ∃ (l : Addr) (ns : List Int), v = .ref l ∧ SqL X.K H1 l (ns.map V.int) ∧ ns.length < 64 ∧ Q (.int (setLen ns : Nat)) H1) I ⟨R, G, ρ, x, _, rp, h1, fun G1 H1 v1 s1 r1 d1 => ?_⟩) fun v s1 ⟨x1, H1, I1, rel, q1⟩ => PyProof.Rows.args_nil ?_) na) na rfl))
  · cases d1 with
    | lst hq dv =>
      unfold dLenSet at h2
      rw [Option.bind_eq_some_iff] at h2
      obtain ⟨ns, hn, h2⟩ := h2
      split at h2
      · rename_i hl
        cases h2
        have e1 := intsOf_map _ ns hn
        subst e1
        have e2 := dqInts dv
        subst e2
        exact ⟨_, ns, rfl, SqL.of (r1.subG _ _ hq), hl, k G1 H1 _ s1 r1 (.int _)⟩
      · cases h2
    | _ => cases h2
  · obtain ⟨l, ns, rfl, hq, hl, q1⟩ := q1
    cases rel
    obtain ⟨its, rv, pl, hz⟩ := I1.list hq
    have hsz : its.toArray.size = ns.length := by rw [List.size_toArray, ← rv.length, List.length_map]
    refine PySem.call_set_list (I1.ok.hd hc) pl.isList (ns := ns) (by simpa using rv.ints) (by unfold scanBound; omega) fun h' tk hS hk => ?_
    rw [hsz, firstMet_len] at hS
    refine PyProof.Rows.args_nil ?_
    obtain ⟨o, es, ep, t, ho, hex, hd, _, _, _, hf, hn⟩ := hS
    have I2 : Inv X pins σ H1 { s1 with heap := h', toks := tk } := I1.kept fun b o e => hk b o (Heap.lt_size e) e
    have hle : setLen ns ≤ ns.length := by rw [← firstMet_len]; exact PyProof.Rows.firstMet_length_le _ _
    refine call_len_set ho hex hd hf (by rw [hn] <;> omega) ⟨.int (setLen ns : Nat), H1, I2.tok _, ⟨_, by rw [hn]⟩, q1⟩
end
end QL
set_option Elab.async false
set_option linter.all false
set_option maxRecDepth 100000
set_option maxHeartbeats 4000000
namespace QP
open PySem PySem.Spec PyProof.Rows L2 QL
def topS (i : Nat) : Stmt := PySem.Challenge.pw_roomhalls_k06_whole_wider.main.body.getD i (.Pass ⟨0, 0, 0, 0⟩)
def Has (P : Program) (w : World) (K : QL.Fr) (mg : Str → Option Value) (base : Heap) (name : Str) (k : Nat) (ps : List Str) (sp : Sp) : Prop := ∃ f fd, FnOk P w K mg base CX0 k f fd ps sp ∧ mg name = some (.ref f) ∧ PySem.W.keepIn K (.ref f) = true ∧ Binds K fd ps []
def HasE (P : Program) (w : World) (K : QL.Fr) (mg : Str → Option Value) (base : Heap) (name : Str) (k : Nat) (ps : List Str) (sp : Sp) : Prop := ∃ f fd, FnOk P w K mg base (L2.CX P w) k f fd ps sp ∧ mg name = some (.ref f) ∧ PySem.W.keepIn K (.ref f) = true ∧ Binds K fd ps []
abbrev veM : List Value := [.type "ValueError", .type "Exception", .type "BaseException", .type "object"]
def cmOf (mg : Str → Option Value) (y : Str) : Value := (mg y).getD .none
def kinds : List Str := ["NoPlan", "NoLevels", "NoWidths", "NoBeam", "NoRoom", "NoProportion", "Parted", "NoNest", "NoText", "Nothing"]
def whTt (z y : Str) : Bool := decide (y = z)
structure WhOk (K : QL.Fr) (mg : Str → Option Value) (z : Str) : Prop where
  ex : ∃ C, cmOf mg z = .ref C ∧ ExcC K C ∧ PySem.W.kitOne K (.ref C) (.type "ValueError") = some true ∧ ∀ y ∈ kinds, ∃ D, mg y = some (.ref D) ∧ PySem.W.kitOne K (.ref C) (.ref D) = some (whTt z y)
def Def (K : QL.Fr) (mg : Str → Option Value) (name py : Str) (st : Stmt) (ps : List Str) : Prop := ∃ f fd, Fun K py py st f fd ∧ mg name = some (.ref f) ∧ Binds K fd ps []
structure Txt (K : QL.Fr) (mg : Str → Option Value) : Prop where
  b_len : mg "len" = none
  b_abs : mg "abs" = none
  b_range : mg "range" = none
  b_zip : mg "zip" = none
  b_enumerate : mg "enumerate" = none
  b_all : mg "all" = none
  b_any : mg "any" = none
  b_isinstance : mg "isinstance" = none
  b_tuple : mg "tuple" = none
  b_list : mg "list" = none
  b_int : mg "int" = none
  b_str : mg "str" = none
  b_bool : mg "bool" = none
  b_min : mg "min" = none
  b_max : mg "max" = none
  b_sum : mg "sum" = none
  b_sorted : mg "sorted" = none
  b_set : mg "set" = none
  b_ValueError : mg "ValueError" = none
  g_NOUGHT : GlobD K mg "NOUGHT" (.tuple [(.int 0), (.int 1)])
  g_ONE : GlobD K mg "ONE" (.tuple [(.int 1), (.int 1)])
  g_BEAMS : GlobD K mg "BEAMS" (.int 6)
  g_ROOMS : GlobD K mg "ROOMS" (.int 15)
  c_Parted : ClsOk K mg (cmOf mg) veM "ValueError.__new__" "Parted"
  n_RoomError : mg "RoomError" = some (cmOf mg "RoomError")
  x_Parted_RoomError : PySem.W.exmOne K (cmOf mg "Parted") (cmOf mg "RoomError") = some true
  w_Parted : WhOk K mg "Parted"
section
variable {P : Program} {w : World} {K : QL.Fr} {mg : Str → Option Value} {base : Heap}
def slotI (ρ : Ro) (i : Nat) : Int := match ρ[i]? with
  | some (Sl.dat (PyData.int n)) => n
  | _ => 0
def fu_common (ρ : Ro) : Nat := (slotI ρ 1).natAbs + 1
def fu__law_both (ρ : Ro) : Nat := (slotI ρ 1).natAbs + 1
def fu_joined_from (ρ : Ro) : Nat := 100
def fu__law_parted_squares (ρ : Ro) : Nat := 100
def fu__law_ring (ρ : Ro) : Nat := 4000
def fu__law_order_of (ρ : Ro) : Nat := 100
abbrev s_is_any_whole : Stmt := topS 3
theorem sc_is_any_whole : FnScope ["thing"] ["thing"] (defScope s_is_any_whole) := ⟨rfl, rfl, rfl, by decide +kernel, rfl, by decide +kernel, by decide +kernel⟩
def B_is_any_whole : MS := (sRet (eAnd (eOp1 (isaV "int") (eVar 0)) (eNot (eOp1 (isaV "bool") (eVar 0)))))
def F_is_any_whole : List D → Option D := runF 1 1 B_is_any_whole
theorem w_is_any_whole (T : Txt K mg) (ff : Addr) : ∃ W : List Nat, ∀ (cdv : Value) (A : Around) (outer : List Env) (s : Shared) (H : Hp) (E : XK), Room 0 (A.deeper (envOfC "is_any_whole" (defScope s_is_any_whole) s.heap.objs.size ff cdv)) → QSs (cxOf CX0 P w K mg base ["thing"] "is_any_whole" (defScope s_is_any_whole) ff cdv A outer s H E).nox W (defBody s_is_any_whole) B_is_any_whole :=
  ⟨_, fun cdv A outer s H E hr => (qs_one (qs_ret (qe_and (qe_isa (qe_var 0) T.b_isinstance T.b_int) (qe_one (qe_not (qe_isa (qe_var 0) T.b_isinstance T.b_bool))))))⟩
theorem ok_is_any_whole (T : Txt K mg) (X_is_any_whole : Def K mg "is_any_whole" "is_any_whole" s_is_any_whole ["thing"]) : Has P w K mg base "is_any_whole" 1 ["thing"] (spP K F_is_any_whole 1) := by
  obtain ⟨ff, fd, FF, gg, bb⟩ := X_is_any_whole
  obtain ⟨W, hw⟩ := w_is_any_whole T ff
  have o : FnOk P w K mg base CX0 1 ff fd ["thing"] (spP K (runF 1 1 B_is_any_whole) 1) := fnP (k := 0) FF sc_is_any_whole hw
  exact ⟨ff, fd, o, gg, FF.kp, bb⟩
abbrev s_is_whole : Stmt := topS 4
theorem sc_is_whole : FnScope ["thing", "low", "high"] ["thing", "low", "high"] (defScope s_is_whole) := ⟨rfl, rfl, rfl, by decide +kernel, rfl, by decide +kernel, by decide +kernel⟩
def B_is_whole : MS := (sRet (eAnd (eApp F_is_any_whole (aCons (eVar 0) aNil)) (eChain dLe dLe (eVar 1) (eVar 0) (eVar 2))))
def F_is_whole : List D → Option D := runF 3 3 B_is_whole
theorem w_is_whole (T : Txt K mg) (ff : Addr) {f_is_any_whole : Addr} {fd_is_any_whole : FuncData} (O_is_any_whole : FnOk P w K mg base CX0 1 f_is_any_whole fd_is_any_whole ["thing"] (spP K F_is_any_whole 1)) (g_is_any_whole : mg "is_any_whole" = some (.ref f_is_any_whole)) (k_is_any_whole : PySem.W.keepIn K (.ref f_is_any_whole) = true) (b_is_any_whole : Binds K fd_is_any_whole ["thing"] []) : ∃ W : List Nat, ∀ (cdv : Value) (A : Around) (outer : List Env) (s : Shared) (H : Hp) (E : XK), Room 1 (A.deeper (envOfC "is_whole" (defScope s_is_whole) s.heap.objs.size ff cdv)) → QSs (cxOf CX0 P w K mg base ["thing", "low", "high"] "is_whole" (defScope s_is_whole) ff cdv A outer s H E).nox W (defBody s_is_whole) B_is_whole :=
  ⟨_, fun cdv A outer s H E hr => (qs_one (qs_ret (qe_and (qe_call O_is_any_whole (hr.mono (by decide)) g_is_any_whole k_is_any_whole b_is_any_whole (qa_cons (qe_var 0) qa_nil)) (qe_one (qe_chain op_le op_le d_le d_le (qe_var 1) (qe_var 0) (qe_var 2))))))⟩
theorem ok_is_whole (T : Txt K mg) (X_is_whole : Def K mg "is_whole" "is_whole" s_is_whole ["thing", "low", "high"]) (H_is_any_whole : Has P w K mg base "is_any_whole" 1 ["thing"] (spP K F_is_any_whole 1)) : Has P w K mg base "is_whole" 2 ["thing", "low", "high"] (spP K F_is_whole 3) := by
  obtain ⟨f_is_any_whole, fd_is_any_whole, O_is_any_whole, g_is_any_whole, k_is_any_whole, b_is_any_whole⟩ := H_is_any_whole
  obtain ⟨ff, fd, FF, gg, bb⟩ := X_is_whole
  obtain ⟨W, hw⟩ := w_is_whole T ff O_is_any_whole g_is_any_whole k_is_any_whole b_is_any_whole
  have o : FnOk P w K mg base CX0 2 ff fd ["thing", "low", "high"] (spP K (runF 3 3 B_is_whole) 3) := fnP (k := 1) FF sc_is_whole hw
  exact ⟨ff, fd, o, gg, FF.kp, bb⟩
abbrev s_common : Stmt := topS 5
theorem sc_common : FnScope ["one", "other"] ["one", "other"] (defScope s_common) := ⟨rfl, rfl, rfl, by decide +kernel, rfl, by decide +kernel, by decide +kernel⟩
def B_common : MS := (sSeq (sWhile fu_common (cV (eOp2 dGt (eVar 1) (eC (.int 0)))) (sPar2 0 1 (xDat (eVar 1) (xDat (eOp2 dMod (eVar 0) (eVar 1)) xNil)))) (sRet (eVar 0)))
def F_common : List D → Option D := runF 2 2 B_common
theorem w_common (T : Txt K mg) (ff : Addr) : ∃ W : List Nat, ∀ (cdv : Value) (A : Around) (outer : List Env) (s : Shared) (H : Hp) (E : XK), Room 0 (A.deeper (envOfC "common" (defScope s_common) s.heap.objs.size ff cdv)) → QSs (cxOf CX0 P w K mg base ["one", "other"] "common" (defScope s_common) ff cdv A outer s H E).nox W (defBody s_common) B_common :=
  ⟨_, fun cdv A outer s H E hr => (qs_cons (qs_while fu_common (qt_cmp op_gt d_gt (qe_var 1) qe_int) (qs_one (qs_par (i := 0) (j := 1) sc_common.nd (qx_dat (qe_var 1) (qx_dat (qe_mod (qe_var 0) (qe_var 1)) qx_nil))))) (qs_one (qs_ret (qe_var 0))))⟩
theorem ok_common (T : Txt K mg) (X_common : Def K mg "common" "common" s_common ["one", "other"]) : Has P w K mg base "common" 1 ["one", "other"] (spP K F_common 2) := by
  obtain ⟨ff, fd, FF, gg, bb⟩ := X_common
  obtain ⟨W, hw⟩ := w_common T ff
  have o : FnOk P w K mg base CX0 1 ff fd ["one", "other"] (spP K (runF 2 2 B_common) 2) := fnP (k := 0) FF sc_common hw
  exact ⟨ff, fd, o, gg, FF.kp, bb⟩
abbrev s_made_of : Stmt := topS 6
theorem sc_made_of : FnScope ["top", "bottom", "both"] ["top", "bottom"] (defScope s_made_of) := ⟨rfl, rfl, rfl, by decide +kernel, rfl, by decide +kernel, by decide +kernel⟩
def B_made_of : MS := (sSeq (sIf (cV (eOp2 dLt (eVar 1) (eC (.int 0)))) (sPar2 0 1 (xDat (eOp2 dSub (eC (.int 0)) (eVar 0)) (xDat (eOp2 dSub (eC (.int 0)) (eVar 1)) xNil))) sNil) (sSeq (sAsg (eApp F_common (aCons (eApp dAbs (aCons (eVar 0) aNil)) (aCons (eVar 1) aNil))) (gSet 2)) (sRet (eApp mkTup (aCons (eOp2 dDiv (eVar 0) (eVar 2)) (aCons (eOp2 dDiv (eVar 1) (eVar 2)) aNil))))))
def F_made_of : List D → Option D := runF 2 3 B_made_of
theorem w_made_of (T : Txt K mg) (ff : Addr) {f_common : Addr} {fd_common : FuncData} (O_common : FnOk P w K mg base CX0 1 f_common fd_common ["one", "other"] (spP K F_common 2)) (g_common : mg "common" = some (.ref f_common)) (k_common : PySem.W.keepIn K (.ref f_common) = true) (b_common : Binds K fd_common ["one", "other"] []) : ∃ W : List Nat, ∀ (cdv : Value) (A : Around) (outer : List Env) (s : Shared) (H : Hp) (E : XK), Room 1 (A.deeper (envOfC "made_of" (defScope s_made_of) s.heap.objs.size ff cdv)) → QSs (cxOf CX0 P w K mg base ["top", "bottom", "both"] "made_of" (defScope s_made_of) ff cdv A outer s H E).nox W (defBody s_made_of) B_made_of :=
  ⟨_, fun cdv A outer s H E hr => (qs_cons (qs_if (qt_cmp op_lt d_lt (qe_var 1) qe_int) (qs_one (qs_par (i := 0) (j := 1) sc_made_of.nd (qx_dat (qe_sub qe_int (qe_var 0)) (qx_dat (qe_sub qe_int (qe_var 1)) qx_nil)))) qs_nil) (qs_cons (qs_set 2 sc_made_of.nd (qe_call O_common (hr.mono (by decide)) g_common k_common b_common (qa_cons (qe_callB call_abs d_abs T.b_abs (qa_cons (qe_var 0) qa_nil)) (qa_cons (qe_var 1) qa_nil)))) (qs_one (qs_ret (qe_tup (qa_cons (qe_div (qe_var 0) (qe_var 2)) (qa_cons (qe_div (qe_var 1) (qe_var 2)) qa_nil)))))))⟩
theorem ok_made_of (T : Txt K mg) (X_made_of : Def K mg "made_of" "made_of" s_made_of ["top", "bottom"]) (H_common : Has P w K mg base "common" 1 ["one", "other"] (spP K F_common 2)) : Has P w K mg base "made_of" 2 ["top", "bottom"] (spP K F_made_of 2) := by
  obtain ⟨f_common, fd_common, O_common, g_common, k_common, b_common⟩ := H_common
  obtain ⟨ff, fd, FF, gg, bb⟩ := X_made_of
  obtain ⟨W, hw⟩ := w_made_of T ff O_common g_common k_common b_common
  have o : FnOk P w K mg base CX0 2 ff fd ["top", "bottom"] (spP K (runF 2 3 B_made_of) 2) := fnP (k := 1) FF sc_made_of hw
  exact ⟨ff, fd, o, gg, FF.kp, bb⟩
abbrev s_is_fraction : Stmt := topS 7
theorem sc_is_fraction : FnScope ["thing", "one"] ["thing"] (defScope s_is_fraction) := ⟨rfl, rfl, rfl, by decide +kernel, rfl, by decide +kernel, by decide +kernel⟩
def B_is_fraction : MS := (sSeq (sIf (cOr (cNot (cV (eOp1 (isaV "tuple") (eVar 0)))) (cOr (cV (eOp2 dNe (eApp dLen (aCons (eVar 0) aNil)) (eC (.int 2)))) (cNot (cV (eApp dAll (aCons (eLc [1] (iSeq (eVar 0)) (gSet 1) cTrue (eApp F_is_any_whole (aCons (eVar 1) aNil))) aNil)))))) (sRet (eC (.bool false))) sNil) (sRet (eAnd (eOp2 dGt (eOp2 dIx (eVar 0) (eC (.int 1))) (eC (.int 0))) (eOp2 dEq (eApp F_common (aCons (eApp dAbs (aCons (eOp2 dIx (eVar 0) (eC (.int 0))) aNil)) (aCons (eOp2 dIx (eVar 0) (eC (.int 1))) aNil))) (eC (.int 1))))))
def F_is_fraction : List D → Option D := runF 1 2 B_is_fraction
theorem w_is_fraction (T : Txt K mg) (ff : Addr) {f_common : Addr} {fd_common : FuncData} (O_common : FnOk P w K mg base CX0 1 f_common fd_common ["one", "other"] (spP K F_common 2)) (g_common : mg "common" = some (.ref f_common)) (k_common : PySem.W.keepIn K (.ref f_common) = true) (b_common : Binds K fd_common ["one", "other"] []) {f_is_any_whole : Addr} {fd_is_any_whole : FuncData} (O_is_any_whole : FnOk P w K mg base CX0 1 f_is_any_whole fd_is_any_whole ["thing"] (spP K F_is_any_whole 1)) (g_is_any_whole : mg "is_any_whole" = some (.ref f_is_any_whole)) (k_is_any_whole : PySem.W.keepIn K (.ref f_is_any_whole) = true) (b_is_any_whole : Binds K fd_is_any_whole ["thing"] []) : ∃ W : List Nat, ∀ (cdv : Value) (A : Around) (outer : List Env) (s : Shared) (H : Hp) (E : XK), Room 1 (A.deeper (envOfC "is_fraction" (defScope s_is_fraction) s.heap.objs.size ff cdv)) → QSs (cxOf CX0 P w K mg base ["thing", "one"] "is_fraction" (defScope s_is_fraction) ff cdv A outer s H E).nox W (defBody s_is_fraction) B_is_fraction :=
  ⟨_, fun cdv A outer s H E hr => (qs_cons (qs_if (qw_pt (qw_or (qt_not (qt_val (qe_isa (qe_var 0) T.b_isinstance T.b_tuple))) (qw_or (qt_cmp (op_neD hr.units) d_ne (qe_callB call_len_seq d_len T.b_len (qa_cons (qe_var 0) qa_nil)) qe_int) (qw_or1 (qt_not (qt_val (qe_callB (cr_all rfl) d_all T.b_all (qa_cons (qe_lc [("one", 1)] sc_is_fraction.nd (qi_seq (qe_var 0)) (blkOk_by (N := ["thing", "one"]) (sc := (defScope s_is_fraction)) (by decide +kernel)) (fun _ _ _ _ _ => (qg_name 1 sc_is_fraction.nd)) (fun _ _ _ _ _ => qts_nil) (fun _ _ _ _ _ => (qe_call O_is_any_whole (hr.mono (by decide)) g_is_any_whole k_is_any_whole b_is_any_whole (qa_cons (qe_var 1) qa_nil)))) qa_nil)))))))) (qs_one (qs_ret qe_bl)) qs_nil) (qs_one (qs_ret (qe_and (qe_cmp op_gt d_gt (qe_ix (qe_var 0) qe_int) qe_int) (qe_one (qe_cmp (op_eqD hr.units) d_eq (qe_call O_common (hr.mono (by decide)) g_common k_common b_common (qa_cons (qe_callB call_abs d_abs T.b_abs (qa_cons (qe_ix (qe_var 0) qe_int) qa_nil)) (qa_cons (qe_ix (qe_var 0) qe_int) qa_nil))) qe_int))))))⟩
theorem ok_is_fraction (T : Txt K mg) (X_is_fraction : Def K mg "is_fraction" "is_fraction" s_is_fraction ["thing"]) (H_common : Has P w K mg base "common" 1 ["one", "other"] (spP K F_common 2)) (H_is_any_whole : Has P w K mg base "is_any_whole" 1 ["thing"] (spP K F_is_any_whole 1)) : Has P w K mg base "is_fraction" 2 ["thing"] (spP K F_is_fraction 1) := by
  obtain ⟨f_common, fd_common, O_common, g_common, k_common, b_common⟩ := H_common
  obtain ⟨f_is_any_whole, fd_is_any_whole, O_is_any_whole, g_is_any_whole, k_is_any_whole, b_is_any_whole⟩ := H_is_any_whole
  obtain ⟨ff, fd, FF, gg, bb⟩ := X_is_fraction
  obtain ⟨W, hw⟩ := w_is_fraction T ff O_common g_common k_common b_common O_is_any_whole g_is_any_whole k_is_any_whole b_is_any_whole
  have o : FnOk P w K mg base CX0 2 ff fd ["thing"] (spP K (runF 1 2 B_is_fraction) 1) := fnP (k := 1) FF sc_is_fraction hw
  exact ⟨ff, fd, o, gg, FF.kp, bb⟩
abbrev s_plus : Stmt := topS 8
theorem sc_plus : FnScope ["one", "other"] ["one", "other"] (defScope s_plus) := ⟨rfl, rfl, rfl, by decide +kernel, rfl, by decide +kernel, by decide +kernel⟩
def B_plus : MS := (sRet (eApp F_made_of (aCons (eOp2 dAdd (eOp2 dMul (eOp2 dIx (eVar 0) (eC (.int 0))) (eOp2 dIx (eVar 1) (eC (.int 1)))) (eOp2 dMul (eOp2 dIx (eVar 1) (eC (.int 0))) (eOp2 dIx (eVar 0) (eC (.int 1))))) (aCons (eOp2 dMul (eOp2 dIx (eVar 0) (eC (.int 1))) (eOp2 dIx (eVar 1) (eC (.int 1)))) aNil))))
def F_plus : List D → Option D := runF 2 2 B_plus
theorem w_plus (T : Txt K mg) (ff : Addr) {f_made_of : Addr} {fd_made_of : FuncData} (O_made_of : FnOk P w K mg base CX0 2 f_made_of fd_made_of ["top", "bottom"] (spP K F_made_of 2)) (g_made_of : mg "made_of" = some (.ref f_made_of)) (k_made_of : PySem.W.keepIn K (.ref f_made_of) = true) (b_made_of : Binds K fd_made_of ["top", "bottom"] []) : ∃ W : List Nat, ∀ (cdv : Value) (A : Around) (outer : List Env) (s : Shared) (H : Hp) (E : XK), Room 2 (A.deeper (envOfC "plus" (defScope s_plus) s.heap.objs.size ff cdv)) → QSs (cxOf CX0 P w K mg base ["one", "other"] "plus" (defScope s_plus) ff cdv A outer s H E).nox W (defBody s_plus) B_plus :=
  ⟨_, fun cdv A outer s H E hr => (qs_one (qs_ret (qe_call O_made_of (hr.mono (by decide)) g_made_of k_made_of b_made_of (qa_cons (qe_add (qe_mul (qe_ix (qe_var 0) qe_int) (qe_ix (qe_var 1) qe_int)) (qe_mul (qe_ix (qe_var 1) qe_int) (qe_ix (qe_var 0) qe_int))) (qa_cons (qe_mul (qe_ix (qe_var 0) qe_int) (qe_ix (qe_var 1) qe_int)) qa_nil)))))⟩
theorem ok_plus (T : Txt K mg) (X_plus : Def K mg "plus" "plus" s_plus ["one", "other"]) (H_made_of : Has P w K mg base "made_of" 2 ["top", "bottom"] (spP K F_made_of 2)) : Has P w K mg base "plus" 3 ["one", "other"] (spP K F_plus 2) := by
  obtain ⟨f_made_of, fd_made_of, O_made_of, g_made_of, k_made_of, b_made_of⟩ := H_made_of
  obtain ⟨ff, fd, FF, gg, bb⟩ := X_plus
  obtain ⟨W, hw⟩ := w_plus T ff O_made_of g_made_of k_made_of b_made_of
  have o : FnOk P w K mg base CX0 3 ff fd ["one", "other"] (spP K (runF 2 2 B_plus) 2) := fnP (k := 2) FF sc_plus hw
  exact ⟨ff, fd, o, gg, FF.kp, bb⟩
abbrev s_less : Stmt := topS 9
theorem sc_less : FnScope ["one"] ["one"] (defScope s_less) := ⟨rfl, rfl, rfl, by decide +kernel, rfl, by decide +kernel, by decide +kernel⟩
def B_less : MS := (sRet (eApp mkTup (aCons (eOp2 dSub (eC (.int 0)) (eOp2 dIx (eVar 0) (eC (.int 0)))) (aCons (eOp2 dIx (eVar 0) (eC (.int 1))) aNil))))
def F_less : List D → Option D := runF 1 1 B_less
theorem w_less (T : Txt K mg) (ff : Addr) : ∃ W : List Nat, ∀ (cdv : Value) (A : Around) (outer : List Env) (s : Shared) (H : Hp) (E : XK), Room 0 (A.deeper (envOfC "less" (defScope s_less) s.heap.objs.size ff cdv)) → QSs (cxOf CX0 P w K mg base ["one"] "less" (defScope s_less) ff cdv A outer s H E).nox W (defBody s_less) B_less :=
  ⟨_, fun cdv A outer s H E hr => (qs_one (qs_ret (qe_tup (qa_cons (qe_sub qe_int (qe_ix (qe_var 0) qe_int)) (qa_cons (qe_ix (qe_var 0) qe_int) qa_nil)))))⟩
theorem ok_less (T : Txt K mg) (X_less : Def K mg "less" "less" s_less ["one"]) : Has P w K mg base "less" 1 ["one"] (spP K F_less 1) := by
  obtain ⟨ff, fd, FF, gg, bb⟩ := X_less
  obtain ⟨W, hw⟩ := w_less T ff
  have o : FnOk P w K mg base CX0 1 ff fd ["one"] (spP K (runF 1 1 B_less) 1) := fnP (k := 0) FF sc_less hw
  exact ⟨ff, fd, o, gg, FF.kp, bb⟩
abbrev s_minus : Stmt := topS 10
theorem sc_minus : FnScope ["one", "other"] ["one", "other"] (defScope s_minus) := ⟨rfl, rfl, rfl, by decide +kernel, rfl, by decide +kernel, by decide +kernel⟩
def B_minus : MS := (sRet (eApp F_plus (aCons (eVar 0) (aCons (eApp F_less (aCons (eVar 1) aNil)) aNil))))
def F_minus : List D → Option D := runF 2 2 B_minus
theorem w_minus (T : Txt K mg) (ff : Addr) {f_less : Addr} {fd_less : FuncData} (O_less : FnOk P w K mg base CX0 1 f_less fd_less ["one"] (spP K F_less 1)) (g_less : mg "less" = some (.ref f_less)) (k_less : PySem.W.keepIn K (.ref f_less) = true) (b_less : Binds K fd_less ["one"] []) {f_plus : Addr} {fd_plus : FuncData} (O_plus : FnOk P w K mg base CX0 3 f_plus fd_plus ["one", "other"] (spP K F_plus 2)) (g_plus : mg "plus" = some (.ref f_plus)) (k_plus : PySem.W.keepIn K (.ref f_plus) = true) (b_plus : Binds K fd_plus ["one", "other"] []) : ∃ W : List Nat, ∀ (cdv : Value) (A : Around) (outer : List Env) (s : Shared) (H : Hp) (E : XK), Room 3 (A.deeper (envOfC "minus" (defScope s_minus) s.heap.objs.size ff cdv)) → QSs (cxOf CX0 P w K mg base ["one", "other"] "minus" (defScope s_minus) ff cdv A outer s H E).nox W (defBody s_minus) B_minus :=
  ⟨_, fun cdv A outer s H E hr => (qs_one (qs_ret (qe_call O_plus (hr.mono (by decide)) g_plus k_plus b_plus (qa_cons (qe_var 0) (qa_cons (qe_call O_less (hr.mono (by decide)) g_less k_less b_less (qa_cons (qe_var 1) qa_nil)) qa_nil)))))⟩
theorem ok_minus (T : Txt K mg) (X_minus : Def K mg "minus" "minus" s_minus ["one", "other"]) (H_less : Has P w K mg base "less" 1 ["one"] (spP K F_less 1)) (H_plus : Has P w K mg base "plus" 3 ["one", "other"] (spP K F_plus 2)) : Has P w K mg base "minus" 4 ["one", "other"] (spP K F_minus 2) := by
  obtain ⟨f_less, fd_less, O_less, g_less, k_less, b_less⟩ := H_less
  obtain ⟨f_plus, fd_plus, O_plus, g_plus, k_plus, b_plus⟩ := H_plus
  obtain ⟨ff, fd, FF, gg, bb⟩ := X_minus
  obtain ⟨W, hw⟩ := w_minus T ff O_less g_less k_less b_less O_plus g_plus k_plus b_plus
  have o : FnOk P w K mg base CX0 4 ff fd ["one", "other"] (spP K (runF 2 2 B_minus) 2) := fnP (k := 3) FF sc_minus hw
  exact ⟨ff, fd, o, gg, FF.kp, bb⟩
abbrev s_times : Stmt := topS 11
theorem sc_times : FnScope ["one", "other"] ["one", "other"] (defScope s_times) := ⟨rfl, rfl, rfl, by decide +kernel, rfl, by decide +kernel, by decide +kernel⟩
def B_times : MS := (sRet (eApp F_made_of (aCons (eOp2 dMul (eOp2 dIx (eVar 0) (eC (.int 0))) (eOp2 dIx (eVar 1) (eC (.int 0)))) (aCons (eOp2 dMul (eOp2 dIx (eVar 0) (eC (.int 1))) (eOp2 dIx (eVar 1) (eC (.int 1)))) aNil))))
def F_times : List D → Option D := runF 2 2 B_times
theorem w_times (T : Txt K mg) (ff : Addr) {f_made_of : Addr} {fd_made_of : FuncData} (O_made_of : FnOk P w K mg base CX0 2 f_made_of fd_made_of ["top", "bottom"] (spP K F_made_of 2)) (g_made_of : mg "made_of" = some (.ref f_made_of)) (k_made_of : PySem.W.keepIn K (.ref f_made_of) = true) (b_made_of : Binds K fd_made_of ["top", "bottom"] []) : ∃ W : List Nat, ∀ (cdv : Value) (A : Around) (outer : List Env) (s : Shared) (H : Hp) (E : XK), Room 2 (A.deeper (envOfC "times" (defScope s_times) s.heap.objs.size ff cdv)) → QSs (cxOf CX0 P w K mg base ["one", "other"] "times" (defScope s_times) ff cdv A outer s H E).nox W (defBody s_times) B_times :=
  ⟨_, fun cdv A outer s H E hr => (qs_one (qs_ret (qe_call O_made_of (hr.mono (by decide)) g_made_of k_made_of b_made_of (qa_cons (qe_mul (qe_ix (qe_var 0) qe_int) (qe_ix (qe_var 1) qe_int)) (qa_cons (qe_mul (qe_ix (qe_var 0) qe_int) (qe_ix (qe_var 1) qe_int)) qa_nil)))))⟩
theorem ok_times (T : Txt K mg) (X_times : Def K mg "times" "times" s_times ["one", "other"]) (H_made_of : Has P w K mg base "made_of" 2 ["top", "bottom"] (spP K F_made_of 2)) : Has P w K mg base "times" 3 ["one", "other"] (spP K F_times 2) := by
  obtain ⟨f_made_of, fd_made_of, O_made_of, g_made_of, k_made_of, b_made_of⟩ := H_made_of
  obtain ⟨ff, fd, FF, gg, bb⟩ := X_times
  obtain ⟨W, hw⟩ := w_times T ff O_made_of g_made_of k_made_of b_made_of
  have o : FnOk P w K mg base CX0 3 ff fd ["one", "other"] (spP K (runF 2 2 B_times) 2) := fnP (k := 2) FF sc_times hw
  exact ⟨ff, fd, o, gg, FF.kp, bb⟩
abbrev s_over : Stmt := topS 12
theorem sc_over : FnScope ["one", "other"] ["one", "other"] (defScope s_over) := ⟨rfl, rfl, rfl, by decide +kernel, rfl, by decide +kernel, by decide +kernel⟩
def B_over : MS := (sRet (eApp F_made_of (aCons (eOp2 dMul (eOp2 dIx (eVar 0) (eC (.int 0))) (eOp2 dIx (eVar 1) (eC (.int 1)))) (aCons (eOp2 dMul (eOp2 dIx (eVar 0) (eC (.int 1))) (eOp2 dIx (eVar 1) (eC (.int 0)))) aNil))))
def F_over : List D → Option D := runF 2 2 B_over
theorem w_over (T : Txt K mg) (ff : Addr) {f_made_of : Addr} {fd_made_of : FuncData} (O_made_of : FnOk P w K mg base CX0 2 f_made_of fd_made_of ["top", "bottom"] (spP K F_made_of 2)) (g_made_of : mg "made_of" = some (.ref f_made_of)) (k_made_of : PySem.W.keepIn K (.ref f_made_of) = true) (b_made_of : Binds K fd_made_of ["top", "bottom"] []) : ∃ W : List Nat, ∀ (cdv : Value) (A : Around) (outer : List Env) (s : Shared) (H : Hp) (E : XK), Room 2 (A.deeper (envOfC "over" (defScope s_over) s.heap.objs.size ff cdv)) → QSs (cxOf CX0 P w K mg base ["one", "other"] "over" (defScope s_over) ff cdv A outer s H E).nox W (defBody s_over) B_over :=
  ⟨_, fun cdv A outer s H E hr => (qs_one (qs_ret (qe_call O_made_of (hr.mono (by decide)) g_made_of k_made_of b_made_of (qa_cons (qe_mul (qe_ix (qe_var 0) qe_int) (qe_ix (qe_var 1) qe_int)) (qa_cons (qe_mul (qe_ix (qe_var 0) qe_int) (qe_ix (qe_var 1) qe_int)) qa_nil)))))⟩
theorem ok_over (T : Txt K mg) (X_over : Def K mg "over" "over" s_over ["one", "other"]) (H_made_of : Has P w K mg base "made_of" 2 ["top", "bottom"] (spP K F_made_of 2)) : Has P w K mg base "over" 3 ["one", "other"] (spP K F_over 2) := by
  obtain ⟨f_made_of, fd_made_of, O_made_of, g_made_of, k_made_of, b_made_of⟩ := H_made_of
  obtain ⟨ff, fd, FF, gg, bb⟩ := X_over
  obtain ⟨W, hw⟩ := w_over T ff O_made_of g_made_of k_made_of b_made_of
  have o : FnOk P w K mg base CX0 3 ff fd ["one", "other"] (spP K (runF 2 2 B_over) 2) := fnP (k := 2) FF sc_over hw
  exact ⟨ff, fd, o, gg, FF.kp, bb⟩
abbrev s_total : Stmt := topS 13
theorem sc_total : FnScope ["some", "made", "one"] ["some"] (defScope s_total) := ⟨rfl, rfl, rfl, by decide +kernel, rfl, by decide +kernel, by decide +kernel⟩
def B_total : MS := (sSeq (sAsg (eC (.tuple [(.int 0), (.int 1)])) (gSet 1)) (sSeq (sFor (iSeq (eVar 0)) (gSet 2) (sAsg (eApp F_plus (aCons (eVar 1) (aCons (eVar 2) aNil))) (gSet 1))) (sRet (eVar 1))))
def F_total : List D → Option D := runF 1 3 B_total
theorem w_total (T : Txt K mg) (ff : Addr) {f_plus : Addr} {fd_plus : FuncData} (O_plus : FnOk P w K mg base CX0 3 f_plus fd_plus ["one", "other"] (spP K F_plus 2)) (g_plus : mg "plus" = some (.ref f_plus)) (k_plus : PySem.W.keepIn K (.ref f_plus) = true) (b_plus : Binds K fd_plus ["one", "other"] []) : ∃ W : List Nat, ∀ (cdv : Value) (A : Around) (outer : List Env) (s : Shared) (H : Hp) (E : XK), Room 3 (A.deeper (envOfC "total" (defScope s_total) s.heap.objs.size ff cdv)) → QSs (cxOf CX0 P w K mg base ["some", "made", "one"] "total" (defScope s_total) ff cdv A outer s H E).nox W (defBody s_total) B_total :=
  ⟨_, fun cdv A outer s H E hr => (qs_cons (qs_set 1 sc_total.nd (qe_glob T.g_NOUGHT)) (qs_cons (qs_for (qi_seq (qe_var 0)) (qg_name 2 sc_total.nd) (qs_one (qs_set 1 sc_total.nd (qe_call O_plus (hr.mono (by decide)) g_plus k_plus b_plus (qa_cons (qe_var 1) (qa_cons (qe_var 2) qa_nil)))))) (qs_one (qs_ret (qe_var 1)))))⟩
theorem ok_total (T : Txt K mg) (X_total : Def K mg "total" "total" s_total ["some"]) (H_plus : Has P w K mg base "plus" 3 ["one", "other"] (spP K F_plus 2)) : Has P w K mg base "total" 4 ["some"] (spP K F_total 1) := by
  obtain ⟨f_plus, fd_plus, O_plus, g_plus, k_plus, b_plus⟩ := H_plus
  obtain ⟨ff, fd, FF, gg, bb⟩ := X_total
  obtain ⟨W, hw⟩ := w_total T ff O_plus g_plus k_plus b_plus
  have o : FnOk P w K mg base CX0 4 ff fd ["some"] (spP K (runF 1 3 B_total) 1) := fnP (k := 3) FF sc_total hw
  exact ⟨ff, fd, o, gg, FF.kp, bb⟩
abbrev s_is_proportion : Stmt := topS 29
theorem sc_is_proportion : FnScope ["thing"] ["thing"] (defScope s_is_proportion) := ⟨rfl, rfl, rfl, by decide +kernel, rfl, by decide +kernel, by decide +kernel⟩
def B_is_proportion : MS := (sRet (eAnd (eApp F_is_fraction (aCons (eVar 0) aNil)) (eOp2 dGt (eOp2 dIx (eVar 0) (eC (.int 0))) (eC (.int 0)))))
def F_is_proportion : List D → Option D := runF 1 1 B_is_proportion
theorem w_is_proportion (T : Txt K mg) (ff : Addr) {f_is_fraction : Addr} {fd_is_fraction : FuncData} (O_is_fraction : FnOk P w K mg base CX0 2 f_is_fraction fd_is_fraction ["thing"] (spP K F_is_fraction 1)) (g_is_fraction : mg "is_fraction" = some (.ref f_is_fraction)) (k_is_fraction : PySem.W.keepIn K (.ref f_is_fraction) = true) (b_is_fraction : Binds K fd_is_fraction ["thing"] []) : ∃ W : List Nat, ∀ (cdv : Value) (A : Around) (outer : List Env) (s : Shared) (H : Hp) (E : XK), Room 2 (A.deeper (envOfC "is_proportion" (defScope s_is_proportion) s.heap.objs.size ff cdv)) → QSs (cxOf CX0 P w K mg base ["thing"] "is_proportion" (defScope s_is_proportion) ff cdv A outer s H E).nox W (defBody s_is_proportion) B_is_proportion :=
  ⟨_, fun cdv A outer s H E hr => (qs_one (qs_ret (qe_and (qe_call O_is_fraction (hr.mono (by decide)) g_is_fraction k_is_fraction b_is_fraction (qa_cons (qe_var 0) qa_nil)) (qe_one (qe_cmp op_gt d_gt (qe_ix (qe_var 0) qe_int) qe_int)))))⟩
theorem ok_is_proportion (T : Txt K mg) (X_is_proportion : Def K mg "is_proportion" "is_proportion" s_is_proportion ["thing"]) (H_is_fraction : Has P w K mg base "is_fraction" 2 ["thing"] (spP K F_is_fraction 1)) : Has P w K mg base "is_proportion" 3 ["thing"] (spP K F_is_proportion 1) := by
  obtain ⟨f_is_fraction, fd_is_fraction, O_is_fraction, g_is_fraction, k_is_fraction, b_is_fraction⟩ := H_is_fraction
  obtain ⟨ff, fd, FF, gg, bb⟩ := X_is_proportion
  obtain ⟨W, hw⟩ := w_is_proportion T ff O_is_fraction g_is_fraction k_is_fraction b_is_fraction
  have o : FnOk P w K mg base CX0 3 ff fd ["thing"] (spP K (runF 1 1 B_is_proportion) 1) := fnP (k := 2) FF sc_is_proportion hw
  exact ⟨ff, fd, o, gg, FF.kp, bb⟩
abbrev s_is_room : Stmt := topS 30
theorem sc_is_room : FnScope ["beams", "thing", "one"] ["beams", "thing"] (defScope s_is_room) := ⟨rfl, rfl, rfl, by decide +kernel, rfl, by decide +kernel, by decide +kernel⟩
def B_is_room : MS := (sSeq (sIf (cOr (cNot (cV (eOp1 (isaV "tuple") (eVar 1)))) (cOr (cV (eOp2 dNe (eApp dLen (aCons (eVar 1) aNil)) (eC (.int 3)))) (cNot (cV (eApp dAll (aCons (eLc [2] (iSeq (eSlice (eVar 1) pNone (pSome (eC (.int 2))))) (gSet 2) cTrue (eApp F_is_whole (aCons (eVar 2) (aCons (eC (.int 0)) (aCons (eOp2 dSub (eVar 0) (eC (.int 1))) aNil))))) aNil)))))) (sRet (eC (.bool false))) sNil) (sRet (eAnd (eOp2 dNe (eOp2 dIx (eVar 1) (eC (.int 0))) (eOp2 dIx (eVar 1) (eC (.int 1)))) (eApp F_is_proportion (aCons (eOp2 dIx (eVar 1) (eC (.int 2))) aNil)))))
def F_is_room : List D → Option D := runF 2 3 B_is_room
theorem w_is_room (T : Txt K mg) (ff : Addr) {f_is_proportion : Addr} {fd_is_proportion : FuncData} (O_is_proportion : FnOk P w K mg base CX0 3 f_is_proportion fd_is_proportion ["thing"] (spP K F_is_proportion 1)) (g_is_proportion : mg "is_proportion" = some (.ref f_is_proportion)) (k_is_proportion : PySem.W.keepIn K (.ref f_is_proportion) = true) (b_is_proportion : Binds K fd_is_proportion ["thing"] []) {f_is_whole : Addr} {fd_is_whole : FuncData} (O_is_whole : FnOk P w K mg base CX0 2 f_is_whole fd_is_whole ["thing", "low", "high"] (spP K F_is_whole 3)) (g_is_whole : mg "is_whole" = some (.ref f_is_whole)) (k_is_whole : PySem.W.keepIn K (.ref f_is_whole) = true) (b_is_whole : Binds K fd_is_whole ["thing", "low", "high"] []) : ∃ W : List Nat, ∀ (cdv : Value) (A : Around) (outer : List Env) (s : Shared) (H : Hp) (E : XK), Room 3 (A.deeper (envOfC "is_room" (defScope s_is_room) s.heap.objs.size ff cdv)) → QSs (cxOf CX0 P w K mg base ["beams", "thing", "one"] "is_room" (defScope s_is_room) ff cdv A outer s H E).nox W (defBody s_is_room) B_is_room :=
  ⟨_, fun cdv A outer s H E hr => (qs_cons (qs_if (qw_pt (qw_or (qt_not (qt_val (qe_isa (qe_var 1) T.b_isinstance T.b_tuple))) (qw_or (qt_cmp (op_neD hr.units) d_ne (qe_callB call_len_seq d_len T.b_len (qa_cons (qe_var 1) qa_nil)) qe_int) (qw_or1 (qt_not (qt_val (qe_callB (cr_all rfl) d_all T.b_all (qa_cons (qe_lc [("one", 2)] sc_is_room.nd (qi_seq (qe_slice (qe_var 1) qpo_none (qpo_some qe_int))) (blkOk_by (N := ["beams", "thing", "one"]) (sc := (defScope s_is_room)) (by decide +kernel)) (fun _ _ _ _ _ => (qg_name 2 sc_is_room.nd)) (fun _ _ _ _ _ => qts_nil) (fun _ _ _ _ _ => (qe_call O_is_whole (hr.mono (by decide)) g_is_whole k_is_whole b_is_whole (qa_cons (qe_var 2) (qa_cons qe_int (qa_cons (qe_sub (qe_var 0) qe_int) qa_nil)))))) qa_nil)))))))) (qs_one (qs_ret qe_bl)) qs_nil) (qs_one (qs_ret (qe_and (qe_cmp (op_neD hr.units) d_ne (qe_ix (qe_var 1) qe_int) (qe_ix (qe_var 1) qe_int)) (qe_one (qe_call O_is_proportion (hr.mono (by decide)) g_is_proportion k_is_proportion b_is_proportion (qa_cons (qe_ix (qe_var 1) qe_int) qa_nil)))))))⟩
theorem ok_is_room (T : Txt K mg) (X_is_room : Def K mg "is_room" "is_room" s_is_room ["beams", "thing"]) (H_is_proportion : Has P w K mg base "is_proportion" 3 ["thing"] (spP K F_is_proportion 1)) (H_is_whole : Has P w K mg base "is_whole" 2 ["thing", "low", "high"] (spP K F_is_whole 3)) : Has P w K mg base "is_room" 4 ["beams", "thing"] (spP K F_is_room 2) := by
  obtain ⟨f_is_proportion, fd_is_proportion, O_is_proportion, g_is_proportion, k_is_proportion, b_is_proportion⟩ := H_is_proportion
  obtain ⟨f_is_whole, fd_is_whole, O_is_whole, g_is_whole, k_is_whole, b_is_whole⟩ := H_is_whole
  obtain ⟨ff, fd, FF, gg, bb⟩ := X_is_room
  obtain ⟨W, hw⟩ := w_is_room T ff O_is_proportion g_is_proportion k_is_proportion b_is_proportion O_is_whole g_is_whole k_is_whole b_is_whole
  have o : FnOk P w K mg base CX0 4 ff fd ["beams", "thing"] (spP K (runF 2 3 B_is_room) 2) := fnP (k := 3) FF sc_is_room hw
  exact ⟨ff, fd, o, gg, FF.kp, bb⟩
abbrev s_joined_from : Stmt := topS 31
theorem sc_joined_from : FnScope ["rooms", "start", "found", "level", "later", "one", "other", "proportion", "here", "there"] ["rooms", "start"] (defScope s_joined_from) := ⟨rfl, rfl, rfl, by decide +kernel, rfl, by decide +kernel, by decide +kernel⟩
def B_joined_from : MS := (sSeq (sPar2 2 3 (xOwn (oDict (aCons (eVar 1) (aCons (eC (.bool true)) aNil))) (xDat (eApp mkLst (aCons (eVar 1) aNil)) xNil))) (sSeq (sWhile fu_joined_from (cV (eOp2 dNe (eVar 3) (eApp mkLst aNil))) (sSeq (sOwn 4 (oLst aNil)) (sSeq (sFor (iSeq (eVar 0)) (gTup [(gSet 5), (gSet 6), (gSet 7)]) (sFor (iSeq (eApp mkTup (aCons (eApp mkTup (aCons (eVar 5) (aCons (eVar 6) aNil))) (aCons (eApp mkTup (aCons (eVar 6) (aCons (eVar 5) aNil))) aNil)))) (gTup [(gSet 8), (gSet 9)]) (sIf (cAnd (cV (eOp2 dIn (eVar 8) (eVar 3))) (cV (eNotInOK 2 (eVar 9)))) (sSeq (sPutK 2 (eVar 9) (eC (.bool true))) (sDrop (eAppend 4 (eVar 9)))) sNil))) (sAsg (eVar 4) (gSet 3))))) (sRet (eApp dSortedI (aCons (eListOK 2) aNil)))))
def F_joined_from : List D → Option D := runF 2 10 B_joined_from
theorem w_joined_from (T : Txt K mg) (ff : Addr) : ∃ W : List Nat, ∀ (cdv : Value) (A : Around) (outer : List Env) (s : Shared) (H : Hp) (E : XK), Room 0 (A.deeper (envOfC "joined_from" (defScope s_joined_from) s.heap.objs.size ff cdv)) → QSs (cxOf CX0 P w K mg base ["rooms", "start", "found", "level", "later", "one", "other", "proportion", "here", "there"] "joined_from" (defScope s_joined_from) ff cdv A outer s H E).nox W (defBody s_joined_from) B_joined_from :=
  ⟨_, fun cdv A outer s H E hr => (qs_cons (qs_par (i := 2) (j := 3) sc_joined_from.nd (qx_own (qo_dict (qp_cons (qe_var 1) qe_bl qp_nil)) (qx_dat (qe_lst (qa_cons (qe_var 1) qa_nil)) qx_nil))) (qs_cons (qs_while fu_joined_from (qt_cmp (op_neD hr.units) d_ne (qe_var 3) (qe_lst qa_nil)) (qs_cons (qs_own 4 sc_joined_from.nd (qo_lst qa_nil)) (qs_cons (qs_for (qi_seq (qe_var 0)) (qg_tup (qgs_cons (qg_name 5 sc_joined_from.nd) (qgs_cons (qg_name 6 sc_joined_from.nd) (qgs_cons (qg_name 7 sc_joined_from.nd) qgs_nil)))) (qs_one (qs_for (qi_seq (qe_tup (qa_cons (qe_tup (qa_cons (qe_var 5) (qa_cons (qe_var 6) qa_nil))) (qa_cons (qe_tup (qa_cons (qe_var 6) (qa_cons (qe_var 5) qa_nil))) qa_nil)))) (qg_tup (qgs_cons (qg_name 8 sc_joined_from.nd) (qgs_cons (qg_name 9 sc_joined_from.nd) qgs_nil))) (qs_one (qs_if (qw_pt (qw_and (qt_cmp op_in_seq d_in (qe_var 8) (qe_var 3)) (qw_and1 (qt_notInOK 2 hr (qe_var 9))))) (qs_cons (qs_putK 2 hr (qe_var 9) qe_bl) (qs_one (qs_expr (qe_append 4 (qe_var 9))))) qs_nil))))) (qs_one (qs_set 3 sc_joined_from.nd (qe_var 4)))))) (qs_one (qs_ret (qe_callB cr_sortedI d_sortedI T.b_sorted (qa_cons (qe_listOK 2 T.b_list) qa_nil))))))⟩
theorem ok_joined_from (T : Txt K mg) (X_joined_from : Def K mg "joined_from" "joined_from" s_joined_from ["rooms", "start"]) : Has P w K mg base "joined_from" 1 ["rooms", "start"] (spP K F_joined_from 2) := by
  obtain ⟨ff, fd, FF, gg, bb⟩ := X_joined_from
  obtain ⟨W, hw⟩ := w_joined_from T ff
  have o : FnOk P w K mg base CX0 1 ff fd ["rooms", "start"] (spP K (runF 2 10 B_joined_from) 2) := fnP (k := 0) FF sc_joined_from hw
  exact ⟨ff, fd, o, gg, FF.kp, bb⟩
abbrev s_hangs_together : Stmt := topS 32
theorem sc_hangs_together : FnScope ["beams", "rooms"] ["beams", "rooms"] (defScope s_hangs_together) := ⟨rfl, rfl, rfl, by decide +kernel, rfl, by decide +kernel, by decide +kernel⟩
def B_hangs_together : MS := (sRet (eOp2 dEq (eApp F_joined_from (aCons (eVar 1) (aCons (eC (.int 0)) aNil))) (eApp dListRange (aCons (eVar 0) aNil))))
def F_hangs_together : List D → Option D := runF 2 2 B_hangs_together
theorem w_hangs_together (T : Txt K mg) (ff : Addr) {f_joined_from : Addr} {fd_joined_from : FuncData} (O_joined_from : FnOk P w K mg base CX0 1 f_joined_from fd_joined_from ["rooms", "start"] (spP K F_joined_from 2)) (g_joined_from : mg "joined_from" = some (.ref f_joined_from)) (k_joined_from : PySem.W.keepIn K (.ref f_joined_from) = true) (b_joined_from : Binds K fd_joined_from ["rooms", "start"] []) : ∃ W : List Nat, ∀ (cdv : Value) (A : Around) (outer : List Env) (s : Shared) (H : Hp) (E : XK), Room 1 (A.deeper (envOfC "hangs_together" (defScope s_hangs_together) s.heap.objs.size ff cdv)) → QSs (cxOf CX0 P w K mg base ["beams", "rooms"] "hangs_together" (defScope s_hangs_together) ff cdv A outer s H E).nox W (defBody s_hangs_together) B_hangs_together :=
  ⟨_, fun cdv A outer s H E hr => (qs_one (qs_ret (qe_cmp (op_eqD hr.units) d_eq (qe_call O_joined_from (hr.mono (by decide)) g_joined_from k_joined_from b_joined_from (qa_cons (qe_var 1) (qa_cons qe_int qa_nil))) (qe_listRange T.b_list (qrg_1 T.b_range (qe_var 0))))))⟩
theorem ok_hangs_together (T : Txt K mg) (X_hangs_together : Def K mg "hangs_together" "hangs_together" s_hangs_together ["beams", "rooms"]) (H_joined_from : Has P w K mg base "joined_from" 1 ["rooms", "start"] (spP K F_joined_from 2)) : Has P w K mg base "hangs_together" 2 ["beams", "rooms"] (spP K F_hangs_together 2) := by
  obtain ⟨f_joined_from, fd_joined_from, O_joined_from, g_joined_from, k_joined_from, b_joined_from⟩ := H_joined_from
  obtain ⟨ff, fd, FF, gg, bb⟩ := X_hangs_together
  obtain ⟨W, hw⟩ := w_hangs_together T ff O_joined_from g_joined_from k_joined_from b_joined_from
  have o : FnOk P w K mg base CX0 2 ff fd ["beams", "rooms"] (spP K (runF 2 2 B_hangs_together) 2) := fnP (k := 1) FF sc_hangs_together hw
  exact ⟨ff, fd, o, gg, FF.kp, bb⟩
abbrev s_good_plan : Stmt := topS 33
theorem sc_good_plan : FnScope ["thing", "one"] ["thing"] (defScope s_good_plan) := ⟨rfl, rfl, rfl, by decide +kernel, rfl, by decide +kernel, by decide +kernel⟩
def B_good_plan : MS := (sSeq (sIf (cOr (cNot (cV (eOp1 (isaV "tuple") (eVar 0)))) (cOr (cV (eOp2 dNe (eApp dLen (aCons (eVar 0) aNil)) (eC (.int 2)))) (cNot (cV (eApp F_is_whole (aCons (eOp2 dIx (eVar 0) (eC (.int 0))) (aCons (eC (.int 2)) (aCons (eC (.int 6)) aNil)))))))) (sRet (eC (.bool false))) sNil) (sSeq (sIf (cOr (cNot (cV (eOp1 (isaV "tuple") (eOp2 dIx (eVar 0) (eC (.int 1)))))) (cNot (cV (eChain dLe dLe (eC (.int 1)) (eApp dLen (aCons (eOp2 dIx (eVar 0) (eC (.int 1))) aNil)) (eC (.int 15)))))) (sRet (eC (.bool false))) sNil) (sSeq (sIf (cNot (cV (eApp dAll (aCons (eLc [1] (iSeq (eOp2 dIx (eVar 0) (eC (.int 1)))) (gSet 1) cTrue (eApp F_is_room (aCons (eOp2 dIx (eVar 0) (eC (.int 0))) (aCons (eVar 1) aNil)))) aNil)))) (sRet (eC (.bool false))) sNil) (sRet (eApp F_hangs_together (aCons (eOp2 dIx (eVar 0) (eC (.int 0))) (aCons (eOp2 dIx (eVar 0) (eC (.int 1))) aNil)))))))
def F_good_plan : List D → Option D := runF 1 2 B_good_plan
theorem w_good_plan (T : Txt K mg) (ff : Addr) {f_hangs_together : Addr} {fd_hangs_together : FuncData} (O_hangs_together : FnOk P w K mg base CX0 2 f_hangs_together fd_hangs_together ["beams", "rooms"] (spP K F_hangs_together 2)) (g_hangs_together : mg "hangs_together" = some (.ref f_hangs_together)) (k_hangs_together : PySem.W.keepIn K (.ref f_hangs_together) = true) (b_hangs_together : Binds K fd_hangs_together ["beams", "rooms"] []) {f_is_room : Addr} {fd_is_room : FuncData} (O_is_room : FnOk P w K mg base CX0 4 f_is_room fd_is_room ["beams", "thing"] (spP K F_is_room 2)) (g_is_room : mg "is_room" = some (.ref f_is_room)) (k_is_room : PySem.W.keepIn K (.ref f_is_room) = true) (b_is_room : Binds K fd_is_room ["beams", "thing"] []) {f_is_whole : Addr} {fd_is_whole : FuncData} (O_is_whole : FnOk P w K mg base CX0 2 f_is_whole fd_is_whole ["thing", "low", "high"] (spP K F_is_whole 3)) (g_is_whole : mg "is_whole" = some (.ref f_is_whole)) (k_is_whole : PySem.W.keepIn K (.ref f_is_whole) = true) (b_is_whole : Binds K fd_is_whole ["thing", "low", "high"] []) : ∃ W : List Nat, ∀ (cdv : Value) (A : Around) (outer : List Env) (s : Shared) (H : Hp) (E : XK), Room 4 (A.deeper (envOfC "good_plan" (defScope s_good_plan) s.heap.objs.size ff cdv)) → QSs (cxOf CX0 P w K mg base ["thing", "one"] "good_plan" (defScope s_good_plan) ff cdv A outer s H E).nox W (defBody s_good_plan) B_good_plan :=
  ⟨_, fun cdv A outer s H E hr => (qs_cons (qs_if (qw_pt (qw_or (qt_not (qt_val (qe_isa (qe_var 0) T.b_isinstance T.b_tuple))) (qw_or (qt_cmp (op_neD hr.units) d_ne (qe_callB call_len_seq d_len T.b_len (qa_cons (qe_var 0) qa_nil)) qe_int) (qw_or1 (qt_not (qt_val (qe_call O_is_whole (hr.mono (by decide)) g_is_whole k_is_whole b_is_whole (qa_cons (qe_ix (qe_var 0) qe_int) (qa_cons qe_int (qa_cons (qe_glob T.g_BEAMS) qa_nil)))))))))) (qs_one (qs_ret qe_bl)) qs_nil) (qs_cons (qs_if (qw_pt (qw_or (qt_not (qt_val (qe_isa (qe_ix (qe_var 0) qe_int) T.b_isinstance T.b_tuple))) (qw_or1 (qt_not (qt_chain op_le op_le d_le d_le qe_int (qe_callB call_len_seq d_len T.b_len (qa_cons (qe_ix (qe_var 0) qe_int) qa_nil)) (qe_glob T.g_ROOMS)))))) (qs_one (qs_ret qe_bl)) qs_nil) (qs_cons (qs_if (qt_not (qt_val (qe_callB (cr_all rfl) d_all T.b_all (qa_cons (qe_lc [("one", 1)] sc_good_plan.nd (qi_seq (qe_ix (qe_var 0) qe_int)) (blkOk_by (N := ["thing", "one"]) (sc := (defScope s_good_plan)) (by decide +kernel)) (fun _ _ _ _ _ => (qg_name 1 sc_good_plan.nd)) (fun _ _ _ _ _ => qts_nil) (fun _ _ _ _ _ => (qe_call O_is_room (hr.mono (by decide)) g_is_room k_is_room b_is_room (qa_cons (qe_ix (qe_var 0) qe_int) (qa_cons (qe_var 1) qa_nil))))) qa_nil)))) (qs_one (qs_ret qe_bl)) qs_nil) (qs_one (qs_ret (qe_call O_hangs_together (hr.mono (by decide)) g_hangs_together k_hangs_together b_hangs_together (qa_cons (qe_ix (qe_var 0) qe_int) (qa_cons (qe_ix (qe_var 0) qe_int) qa_nil))))))))⟩
theorem ok_good_plan (T : Txt K mg) (X_good_plan : Def K mg "good_plan" "good_plan" s_good_plan ["thing"]) (H_hangs_together : Has P w K mg base "hangs_together" 2 ["beams", "rooms"] (spP K F_hangs_together 2)) (H_is_room : Has P w K mg base "is_room" 4 ["beams", "thing"] (spP K F_is_room 2)) (H_is_whole : Has P w K mg base "is_whole" 2 ["thing", "low", "high"] (spP K F_is_whole 3)) : Has P w K mg base "good_plan" 5 ["thing"] (spP K F_good_plan 1) := by
  obtain ⟨f_hangs_together, fd_hangs_together, O_hangs_together, g_hangs_together, k_hangs_together, b_hangs_together⟩ := H_hangs_together
  obtain ⟨f_is_room, fd_is_room, O_is_room, g_is_room, k_is_room, b_is_room⟩ := H_is_room
  obtain ⟨f_is_whole, fd_is_whole, O_is_whole, g_is_whole, k_is_whole, b_is_whole⟩ := H_is_whole
  obtain ⟨ff, fd, FF, gg, bb⟩ := X_good_plan
  obtain ⟨W, hw⟩ := w_good_plan T ff O_hangs_together g_hangs_together k_hangs_together b_hangs_together O_is_room g_is_room k_is_room b_is_room O_is_whole g_is_whole k_is_whole b_is_whole
  have o : FnOk P w K mg base CX0 5 ff fd ["thing"] (spP K (runF 1 2 B_good_plan) 1) := fnP (k := 4) FF sc_good_plan hw
  exact ⟨ff, fd, o, gg, FF.kp, bb⟩
abbrev s_need_plan : Stmt := topS 34
theorem sc_need_plan : FnScope ["plan"] ["plan"] (defScope s_need_plan) := ⟨rfl, rfl, rfl, by decide +kernel, rfl, by decide +kernel, by decide +kernel⟩
def B_need_plan : MS := (sIf (cNot (cV (eApp F_good_plan (aCons (eVar 0) aNil)))) sNever sNil)
def F_need_plan : List D → Option D := runF 1 1 B_need_plan
theorem w_need_plan (T : Txt K mg) (ff : Addr) {f_good_plan : Addr} {fd_good_plan : FuncData} (O_good_plan : FnOk P w K mg base CX0 5 f_good_plan fd_good_plan ["thing"] (spP K F_good_plan 1)) (g_good_plan : mg "good_plan" = some (.ref f_good_plan)) (k_good_plan : PySem.W.keepIn K (.ref f_good_plan) = true) (b_good_plan : Binds K fd_good_plan ["thing"] []) : ∃ W : List Nat, ∀ (cdv : Value) (A : Around) (outer : List Env) (s : Shared) (H : Hp) (E : XK), Room 5 (A.deeper (envOfC "need_plan" (defScope s_need_plan) s.heap.objs.size ff cdv)) → QSs (cxOf CX0 P w K mg base ["plan"] "need_plan" (defScope s_need_plan) ff cdv A outer s H E).nox W (defBody s_need_plan) B_need_plan :=
  ⟨_, fun cdv A outer s H E hr => (qs_one (qs_if (qt_not (qt_val (qe_call O_good_plan (hr.mono (by decide)) g_good_plan k_good_plan b_good_plan (qa_cons (qe_var 0) qa_nil)))) (qs_one qs_never) qs_nil))⟩
theorem ok_need_plan (T : Txt K mg) (X_need_plan : Def K mg "need_plan" "need_plan" s_need_plan ["plan"]) (H_good_plan : Has P w K mg base "good_plan" 5 ["thing"] (spP K F_good_plan 1)) : Has P w K mg base "need_plan" 6 ["plan"] (spP K F_need_plan 1) := by
  obtain ⟨f_good_plan, fd_good_plan, O_good_plan, g_good_plan, k_good_plan, b_good_plan⟩ := H_good_plan
  obtain ⟨ff, fd, FF, gg, bb⟩ := X_need_plan
  obtain ⟨W, hw⟩ := w_need_plan T ff O_good_plan g_good_plan k_good_plan b_good_plan
  have o : FnOk P w K mg base CX0 6 ff fd ["plan"] (spP K (runF 1 1 B_need_plan) 1) := fnP (k := 5) FF sc_need_plan hw
  exact ⟨ff, fd, o, gg, FF.kp, bb⟩
abbrev s_solved : Stmt := topS 36
theorem sc_solved : FnScope ["rows", "many", "place", "at", "head", "made", "number", "row", "one", "a", "b"] ["rows"] (defScope s_solved) := ⟨rfl, rfl, rfl, by decide +kernel, rfl, by decide +kernel, by decide +kernel⟩
def B_solved : MS := (sSeq (sAsg (eLenO 0) (gSet 1)) (sSeq (sFor (iApp rng1 (aCons (eVar 1) aNil)) (gSet 2) (sSeq (sAsg (eOp2 dIx (eLc [3] (iApp rng2 (aCons (eVar 2) (aCons (eVar 1) aNil))) (gSet 3) (cV (eOp2 dNe (eOp2 dIx (eIxO 0 (eVar 3)) (eVar 2)) (eC (.tuple [(.int 0), (.int 1)])))) (eVar 3)) (eC (.int 0))) (gSet 3)) (sSeq (sSwap 0 (eVar 2) (eVar 3) (eApp mkTup (aCons (eIxO 0 (eVar 3)) (aCons (eIxO 0 (eVar 2)) aNil)))) (sSeq (sAsg (eLc [8] (iSeq (eIxO 0 (eVar 2))) (gSet 8) cTrue (eApp F_over (aCons (eVar 8) (aCons (eOp2 dIx (eIxO 0 (eVar 2)) (eVar 2)) aNil)))) (gSet 4)) (sSeq (sOwn 5 (oLst aNil)) (sSeq (sFor (iApp enumA (aCons (eVar 0) aNil)) (gTup [(gSet 6), (gSet 7)]) (sDrop (eAppend 5 (eIf (cV (eOp2 dEq (eVar 6) (eVar 2))) (eVar 4) (eLc [9, 10] (iApp zipD (aCons (eVar 7) (aCons (eVar 4) aNil))) (gTup [(gSet 9), (gSet 10)]) cTrue (eApp F_minus (aCons (eVar 9) (aCons (eApp F_times (aCons (eOp2 dIx (eVar 7) (eVar 2)) (aCons (eVar 10) aNil))) aNil)))))))) (sOwn 0 (oVar 5)))))))) (sRet (eLc [7] (iSeq (eVar 0)) (gSet 7) cTrue (eOp2 dIx (eVar 7) (eNeg (eC (.int 1))))))))
def F_solved : List Sl → Option (D × List Sl) := runC 1 11 B_solved
theorem w_solved (T : Txt K mg) (ff : Addr) {f_minus : Addr} {fd_minus : FuncData} (O_minus : FnOk P w K mg base CX0 4 f_minus fd_minus ["one", "other"] (spP K F_minus 2)) (g_minus : mg "minus" = some (.ref f_minus)) (k_minus : PySem.W.keepIn K (.ref f_minus) = true) (b_minus : Binds K fd_minus ["one", "other"] []) {f_over : Addr} {fd_over : FuncData} (O_over : FnOk P w K mg base CX0 3 f_over fd_over ["one", "other"] (spP K F_over 2)) (g_over : mg "over" = some (.ref f_over)) (k_over : PySem.W.keepIn K (.ref f_over) = true) (b_over : Binds K fd_over ["one", "other"] []) {f_times : Addr} {fd_times : FuncData} (O_times : FnOk P w K mg base CX0 3 f_times fd_times ["one", "other"] (spP K F_times 2)) (g_times : mg "times" = some (.ref f_times)) (k_times : PySem.W.keepIn K (.ref f_times) = true) (b_times : Binds K fd_times ["one", "other"] []) : ∃ W : List Nat, ∀ (cdv : Value) (A : Around) (outer : List Env) (s : Shared) (H : Hp) (E : XK), Room 4 (A.deeper (envOfC "solved" (defScope s_solved) s.heap.objs.size ff cdv)) → QSs (cxOf CX0 P w K mg base ["rows", "many", "place", "at", "head", "made", "number", "row", "one", "a", "b"] "solved" (defScope s_solved) ff cdv A outer s H E).nox W (defBody s_solved) B_solved :=
  ⟨_, fun cdv A outer s H E hr => (qs_cons (qs_set 1 sc_solved.nd (qe_lenO 0 T.b_len)) (qs_cons (qs_for (qi_range1 T.b_range (qa_cons (qe_var 1) qa_nil)) (qg_name 2 sc_solved.nd) (qs_cons (qs_set 3 sc_solved.nd (qe_ix (qe_lc [("at", 3)] sc_solved.nd (qi_range2 T.b_range (qa_cons (qe_var 2) (qa_cons (qe_var 1) qa_nil))) (blkOk_by (N := ["rows", "many", "place", "at", "head", "made", "number", "row", "one", "a", "b"]) (sc := (defScope s_solved)) (by decide +kernel)) (fun _ _ _ _ _ => (qg_name 3 sc_solved.nd)) (fun _ _ _ _ _ => (qts_one (qt_cmp (op_neD hr.units) d_ne (qe_ix (qe_ixO 0 (qe_var 3)) (qe_var 2)) (qe_glob T.g_NOUGHT)))) (fun _ _ _ _ _ => (qe_var 3))) qe_int)) (qs_cons (qs_swap 0 (qe_var 2) (qe_var 3) (qe_tup (qa_cons (qe_ixO 0 (qe_var 3)) (qa_cons (qe_ixO 0 (qe_var 2)) qa_nil)))) (qs_cons (qs_setLc 4 [("one", 8)] sc_solved.nd (qi_seq (qe_ixO 0 (qe_var 2))) (blkOk_by (N := ["rows", "many", "place", "at", "head", "made", "number", "row", "one", "a", "b"]) (sc := (defScope s_solved)) (by decide +kernel)) (fun _ _ _ _ _ => (qg_name 8 sc_solved.nd)) (fun _ _ _ _ _ => qts_nil) (fun _ _ _ _ _ => (qe_call O_over (hr.mono (by decide)) g_over k_over b_over (qa_cons (qe_var 8) (qa_cons (qe_ix (qe_ixO 0 (qe_var 2)) (qe_var 2)) qa_nil))))) (qs_cons (qs_own 5 sc_solved.nd (qo_lst qa_nil)) (qs_cons (qs_for (qi_enumA T.b_enumerate (qa_cons (qe_var 0) qa_nil)) (qg_tup (qgs_cons (qg_name 6 sc_solved.nd) (qgs_cons (qg_name 7 sc_solved.nd) qgs_nil))) (qs_one (qs_expr (qe_append 5 (qe_if (qt_cmp (op_eqD hr.units) d_eq (qe_var 6) (qe_var 2)) (qe_var 4) (qe_lc [("a", 9), ("b", 10)] sc_solved.nd (qi_zip T.b_zip (qa_cons (qe_var 7) (qa_cons (qe_var 4) qa_nil))) (blkOk_by (N := ["rows", "many", "place", "at", "head", "made", "number", "row", "one", "a", "b"]) (sc := (defScope s_solved)) (by decide +kernel)) (fun _ _ _ _ _ => (qg_tup (qgs_cons (qg_name 9 sc_solved.nd) (qgs_cons (qg_name 10 sc_solved.nd) qgs_nil)))) (fun _ _ _ _ _ => qts_nil) (fun _ _ _ _ _ => (qe_call O_minus (hr.mono (by decide)) g_minus k_minus b_minus (qa_cons (qe_var 9) (qa_cons (qe_call O_times (hr.mono (by decide)) g_times k_times b_times (qa_cons (qe_ix (qe_var 7) (qe_var 2)) (qa_cons (qe_var 10) qa_nil))) qa_nil)))))))))) (qs_one (qs_own 0 sc_solved.nd (qo_var 5))))))))) (qs_one (qs_ret (qe_lc [("row", 7)] sc_solved.nd (qi_seq (qe_var 0)) (blkOk_by (N := ["rows", "many", "place", "at", "head", "made", "number", "row", "one", "a", "b"]) (sc := (defScope s_solved)) (by decide +kernel)) (fun _ _ _ _ _ => (qg_name 7 sc_solved.nd)) (fun _ _ _ _ _ => qts_nil) (fun _ _ _ _ _ => (qe_ix (qe_var 7) (qe_neg qe_int))))))))⟩
theorem ok_solved (T : Txt K mg) (X_solved : Def K mg "solved" "solved" s_solved ["rows"]) (H_minus : Has P w K mg base "minus" 4 ["one", "other"] (spP K F_minus 2)) (H_over : Has P w K mg base "over" 3 ["one", "other"] (spP K F_over 2)) (H_times : Has P w K mg base "times" 3 ["one", "other"] (spP K F_times 2)) : Has P w K mg base "solved" 5 ["rows"] (spO K F_solved 1) := by
  obtain ⟨f_minus, fd_minus, O_minus, g_minus, k_minus, b_minus⟩ := H_minus
  obtain ⟨f_over, fd_over, O_over, g_over, k_over, b_over⟩ := H_over
  obtain ⟨f_times, fd_times, O_times, g_times, k_times, b_times⟩ := H_times
  obtain ⟨ff, fd, FF, gg, bb⟩ := X_solved
  obtain ⟨W, hw⟩ := w_solved T ff O_minus g_minus k_minus b_minus O_over g_over k_over b_over O_times g_times k_times b_times
  have o : FnOk P w K mg base CX0 5 ff fd ["rows"] (spO K (runC 1 11 B_solved) 1) := fnC (k := 4) FF sc_solved hw
  exact ⟨ff, fd, o, gg, FF.kp, bb⟩
abbrev s_pulls_of : Stmt := topS 37
theorem sc_pulls_of : FnScope ["beams", "rooms", "beam", "row", "one", "other", "proportion", "there"] ["beams", "rooms", "beam"] (defScope s_pulls_of) := ⟨rfl, rfl, rfl, by decide +kernel, rfl, by decide +kernel, by decide +kernel⟩
def B_pulls_of : MS := (sSeq (sOwn 3 (oRep (eApp mkLst (aCons (eC (.tuple [(.int 0), (.int 1)])) aNil)) (eVar 0))) (sSeq (sFor (iSeq (eVar 1)) (gTup [(gSet 4), (gSet 5), (gSet 6)]) (sIf (cV (eOp2 dIn (eVar 2) (eApp mkTup (aCons (eVar 4) (aCons (eVar 5) aNil))))) (sSeq (sAsg (eIf (cV (eOp2 dEq (eVar 2) (eVar 4))) (eVar 5) (eVar 4)) (gSet 7)) (sSeq (sSetIx 3 (eVar 2) (eApp F_plus (aCons (eIxO 3 (eVar 2)) (aCons (eVar 6) aNil)))) (sSetIx 3 (eVar 7) (eApp F_minus (aCons (eIxO 3 (eVar 7)) (aCons (eVar 6) aNil)))))) sNil)) (sRet (eVar 3))))
def F_pulls_of : List D → Option D := runF 3 8 B_pulls_of
theorem w_pulls_of (T : Txt K mg) (ff : Addr) {f_minus : Addr} {fd_minus : FuncData} (O_minus : FnOk P w K mg base CX0 4 f_minus fd_minus ["one", "other"] (spP K F_minus 2)) (g_minus : mg "minus" = some (.ref f_minus)) (k_minus : PySem.W.keepIn K (.ref f_minus) = true) (b_minus : Binds K fd_minus ["one", "other"] []) {f_plus : Addr} {fd_plus : FuncData} (O_plus : FnOk P w K mg base CX0 3 f_plus fd_plus ["one", "other"] (spP K F_plus 2)) (g_plus : mg "plus" = some (.ref f_plus)) (k_plus : PySem.W.keepIn K (.ref f_plus) = true) (b_plus : Binds K fd_plus ["one", "other"] []) : ∃ W : List Nat, ∀ (cdv : Value) (A : Around) (outer : List Env) (s : Shared) (H : Hp) (E : XK), Room 4 (A.deeper (envOfC "pulls_of" (defScope s_pulls_of) s.heap.objs.size ff cdv)) → QSs (cxOf CX0 P w K mg base ["beams", "rooms", "beam", "row", "one", "other", "proportion", "there"] "pulls_of" (defScope s_pulls_of) ff cdv A outer s H E).nox W (defBody s_pulls_of) B_pulls_of :=
  ⟨_, fun cdv A outer s H E hr => (qs_cons (qs_own 3 sc_pulls_of.nd (qo_rep (qe_lst (qa_cons (qe_glob T.g_NOUGHT) qa_nil)) (qe_var 0))) (qs_cons (qs_for (qi_seq (qe_var 1)) (qg_tup (qgs_cons (qg_name 4 sc_pulls_of.nd) (qgs_cons (qg_name 5 sc_pulls_of.nd) (qgs_cons (qg_name 6 sc_pulls_of.nd) qgs_nil)))) (qs_one (qs_if (qt_cmp op_in_seq d_in (qe_var 2) (qe_tup (qa_cons (qe_var 4) (qa_cons (qe_var 5) qa_nil)))) (qs_cons (qs_set 7 sc_pulls_of.nd (qe_if (qt_cmp (op_eqD hr.units) d_eq (qe_var 2) (qe_var 4)) (qe_var 5) (qe_var 4))) (qs_cons (qs_setIx 3 (qe_var 2) (qe_call O_plus (hr.mono (by decide)) g_plus k_plus b_plus (qa_cons (qe_ixO 3 (qe_var 2)) (qa_cons (qe_var 6) qa_nil)))) (qs_one (qs_setIx 3 (qe_var 7) (qe_call O_minus (hr.mono (by decide)) g_minus k_minus b_minus (qa_cons (qe_ixO 3 (qe_var 7)) (qa_cons (qe_var 6) qa_nil))))))) qs_nil))) (qs_one (qs_ret (qe_var 3)))))⟩
theorem ok_pulls_of (T : Txt K mg) (X_pulls_of : Def K mg "pulls_of" "pulls_of" s_pulls_of ["beams", "rooms", "beam"]) (H_minus : Has P w K mg base "minus" 4 ["one", "other"] (spP K F_minus 2)) (H_plus : Has P w K mg base "plus" 3 ["one", "other"] (spP K F_plus 2)) : Has P w K mg base "pulls_of" 5 ["beams", "rooms", "beam"] (spP K F_pulls_of 3) := by
  obtain ⟨f_minus, fd_minus, O_minus, g_minus, k_minus, b_minus⟩ := H_minus
  obtain ⟨f_plus, fd_plus, O_plus, g_plus, k_plus, b_plus⟩ := H_plus
  obtain ⟨ff, fd, FF, gg, bb⟩ := X_pulls_of
  obtain ⟨W, hw⟩ := w_pulls_of T ff O_minus g_minus k_minus b_minus O_plus g_plus k_plus b_plus
  have o : FnOk P w K mg base CX0 5 ff fd ["beams", "rooms", "beam"] (spP K (runF 3 8 B_pulls_of) 3) := fnP (k := 4) FF sc_pulls_of hw
  exact ⟨ff, fd, o, gg, FF.kp, bb⟩
abbrev s_levels_by : Stmt := topS 38
theorem sc_levels_by : FnScope ["beams", "rooms", "fixed", "leaving", "free", "rows", "beam", "found", "made", "row", "goal", "other", "level"] ["beams", "rooms", "fixed", "leaving"] (defScope s_levels_by) := ⟨rfl, rfl, rfl, by decide +kernel, rfl, by decide +kernel, by decide +kernel⟩
def B_levels_by : MS := (sSeq (sAsg (eLc [6] (iApp rng1 (aCons (eVar 0) aNil)) (gSet 6) (cV (eOp2 dNotInK (eVar 6) (eVar 2))) (eVar 6)) (gSet 4)) (sSeq (sOwn 5 (oLst aNil)) (sSeq (sFor (iSeq (eVar 4)) (gSet 6) (sSeq (sAsg (eApp F_pulls_of (aCons (eVar 0) (aCons (eVar 1) (aCons (eVar 6) aNil)))) (gSet 9)) (sSeq (sAsg (eOp2 dIx (eVar 3) (eVar 6)) (gSet 10)) (sSeq (sFor (iKeysD (eVar 2)) (gSet 11) (sAsg (eApp F_minus (aCons (eVar 10) (aCons (eApp F_times (aCons (eOp2 dIx (eVar 9) (eVar 11)) (aCons (eOp2 dIxD (eVar 2) (eVar 11)) aNil))) aNil))) (gSet 10))) (sDrop (eAppend 5 (eOp2 dAdd (eLc [11] (iSeq (eVar 4)) (gSet 11) cTrue (eOp2 dIx (eVar 9) (eVar 11))) (eApp mkLst (aCons (eVar 10) aNil))))))))) (sSeq (sAsg (eAppO F_solved (yVar 5 yNil)) (gSet 7)) (sSeq (sOwn 8 (oRep (eApp mkLst (aCons (eC (.tuple [(.int 0), (.int 1)])) aNil)) (eVar 0))) (sSeq (sFor (iKeysD (eVar 2)) (gSet 6) (sSetIx 8 (eVar 6) (eOp2 dIxD (eVar 2) (eVar 6)))) (sSeq (sFor (iApp zipD (aCons (eVar 4) (aCons (eVar 7) aNil))) (gTup [(gSet 6), (gSet 12)]) (sSetIx 8 (eVar 6) (eVar 12))) (sRet (eApp dTuple (aCons (eVar 8) aNil))))))))))
def F_levels_by : List D → Option D := runF 4 13 B_levels_by
theorem w_levels_by (T : Txt K mg) (ff : Addr) {f_minus : Addr} {fd_minus : FuncData} (O_minus : FnOk P w K mg base CX0 4 f_minus fd_minus ["one", "other"] (spP K F_minus 2)) (g_minus : mg "minus" = some (.ref f_minus)) (k_minus : PySem.W.keepIn K (.ref f_minus) = true) (b_minus : Binds K fd_minus ["one", "other"] []) {f_pulls_of : Addr} {fd_pulls_of : FuncData} (O_pulls_of : FnOk P w K mg base CX0 5 f_pulls_of fd_pulls_of ["beams", "rooms", "beam"] (spP K F_pulls_of 3)) (g_pulls_of : mg "pulls_of" = some (.ref f_pulls_of)) (k_pulls_of : PySem.W.keepIn K (.ref f_pulls_of) = true) (b_pulls_of : Binds K fd_pulls_of ["beams", "rooms", "beam"] []) {f_solved : Addr} {fd_solved : FuncData} (O_solved : FnOk P w K mg base CX0 5 f_solved fd_solved ["rows"] (spO K F_solved 1)) (g_solved : mg "solved" = some (.ref f_solved)) (k_solved : PySem.W.keepIn K (.ref f_solved) = true) (b_solved : Binds K fd_solved ["rows"] []) {f_times : Addr} {fd_times : FuncData} (O_times : FnOk P w K mg base CX0 3 f_times fd_times ["one", "other"] (spP K F_times 2)) (g_times : mg "times" = some (.ref f_times)) (k_times : PySem.W.keepIn K (.ref f_times) = true) (b_times : Binds K fd_times ["one", "other"] []) : ∃ W : List Nat, ∀ (cdv : Value) (A : Around) (outer : List Env) (s : Shared) (H : Hp) (E : XK), Room 5 (A.deeper (envOfC "levels_by" (defScope s_levels_by) s.heap.objs.size ff cdv)) → QSs (cxOf CX0 P w K mg base ["beams", "rooms", "fixed", "leaving", "free", "rows", "beam", "found", "made", "row", "goal", "other", "level"] "levels_by" (defScope s_levels_by) ff cdv A outer s H E).nox W (defBody s_levels_by) B_levels_by :=
  ⟨_, fun cdv A outer s H E hr => (qs_cons (qs_setLc 4 [("beam", 6)] sc_levels_by.nd (qi_range1 T.b_range (qa_cons (qe_var 0) qa_nil)) (blkOk_by (N := ["beams", "rooms", "fixed", "leaving", "free", "rows", "beam", "found", "made", "row", "goal", "other", "level"]) (sc := (defScope s_levels_by)) (by decide +kernel)) (fun _ _ _ _ _ => (qg_name 6 sc_levels_by.nd)) (fun _ _ _ _ _ => (qts_one (qt_notInK hr (qe_var 6) (qe_var 2)))) (fun _ _ _ _ _ => (qe_var 6))) (qs_cons (qs_own 5 sc_levels_by.nd (qo_lst qa_nil)) (qs_cons (qs_for (qi_seq (qe_var 4)) (qg_name 6 sc_levels_by.nd) (qs_cons (qs_set 9 sc_levels_by.nd (qe_call O_pulls_of (hr.mono (by decide)) g_pulls_of k_pulls_of b_pulls_of (qa_cons (qe_var 0) (qa_cons (qe_var 1) (qa_cons (qe_var 6) qa_nil))))) (qs_cons (qs_set 10 sc_levels_by.nd (qe_ix (qe_var 3) (qe_var 6))) (qs_cons (qs_for (qi_keysD (qe_var 2)) (qg_name 11 sc_levels_by.nd) (qs_one (qs_set 10 sc_levels_by.nd (qe_call O_minus (hr.mono (by decide)) g_minus k_minus b_minus (qa_cons (qe_var 10) (qa_cons (qe_call O_times (hr.mono (by decide)) g_times k_times b_times (qa_cons (qe_ix (qe_var 9) (qe_var 11)) (qa_cons (qe_ixD hr (qe_var 2) (qe_var 11)) qa_nil))) qa_nil)))))) (qs_one (qs_expr (qe_append 5 (qe_add (qe_lc [("other", 11)] sc_levels_by.nd (qi_seq (qe_var 4)) (blkOk_by (N := ["beams", "rooms", "fixed", "leaving", "free", "rows", "beam", "found", "made", "row", "goal", "other", "level"]) (sc := (defScope s_levels_by)) (by decide +kernel)) (fun _ _ _ _ _ => (qg_name 11 sc_levels_by.nd)) (fun _ _ _ _ _ => qts_nil) (fun _ _ _ _ _ => (qe_ix (qe_var 9) (qe_var 11)))) (qe_lst (qa_cons (qe_var 10) qa_nil)))))))))) (qs_cons (qs_set 7 sc_levels_by.nd (qe_callO O_solved (hr.mono (by decide)) g_solved k_solved b_solved (qy_var 5 qy_nil) (hF := runC_ok))) (qs_cons (qs_own 8 sc_levels_by.nd (qo_rep (qe_lst (qa_cons (qe_glob T.g_NOUGHT) qa_nil)) (qe_var 0))) (qs_cons (qs_for (qi_keysD (qe_var 2)) (qg_name 6 sc_levels_by.nd) (qs_one (qs_setIx 8 (qe_var 6) (qe_ixD hr (qe_var 2) (qe_var 6))))) (qs_cons (qs_for (qi_zip T.b_zip (qa_cons (qe_var 4) (qa_cons (qe_var 7) qa_nil))) (qg_tup (qgs_cons (qg_name 6 sc_levels_by.nd) (qgs_cons (qg_name 12 sc_levels_by.nd) qgs_nil))) (qs_one (qs_setIx 8 (qe_var 6) (qe_var 12)))) (qs_one (qs_ret (qe_callTy call_tuple_of d_tuple T.b_tuple (qa_cons (qe_var 8) qa_nil)))))))))))⟩
theorem ok_levels_by (T : Txt K mg) (X_levels_by : Def K mg "levels_by" "levels_by" s_levels_by ["beams", "rooms", "fixed", "leaving"]) (H_minus : Has P w K mg base "minus" 4 ["one", "other"] (spP K F_minus 2)) (H_pulls_of : Has P w K mg base "pulls_of" 5 ["beams", "rooms", "beam"] (spP K F_pulls_of 3)) (H_solved : Has P w K mg base "solved" 5 ["rows"] (spO K F_solved 1)) (H_times : Has P w K mg base "times" 3 ["one", "other"] (spP K F_times 2)) : Has P w K mg base "levels_by" 6 ["beams", "rooms", "fixed", "leaving"] (spP K F_levels_by 4) := by
  obtain ⟨f_minus, fd_minus, O_minus, g_minus, k_minus, b_minus⟩ := H_minus
  obtain ⟨f_pulls_of, fd_pulls_of, O_pulls_of, g_pulls_of, k_pulls_of, b_pulls_of⟩ := H_pulls_of
  obtain ⟨f_solved, fd_solved, O_solved, g_solved, k_solved, b_solved⟩ := H_solved
  obtain ⟨f_times, fd_times, O_times, g_times, k_times, b_times⟩ := H_times
  obtain ⟨ff, fd, FF, gg, bb⟩ := X_levels_by
  obtain ⟨W, hw⟩ := w_levels_by T ff O_minus g_minus k_minus b_minus O_pulls_of g_pulls_of k_pulls_of b_pulls_of O_solved g_solved k_solved b_solved O_times g_times k_times b_times
  have o : FnOk P w K mg base CX0 6 ff fd ["beams", "rooms", "fixed", "leaving"] (spP K (runF 4 13 B_levels_by) 4) := fnP (k := 5) FF sc_levels_by hw
  exact ⟨ff, fd, o, gg, FF.kp, bb⟩
abbrev s_levels_of : Stmt := topS 39
theorem sc_levels_of : FnScope ["plan", "beams", "rooms"] ["plan"] (defScope s_levels_of) := ⟨rfl, rfl, rfl, by decide +kernel, rfl, by decide +kernel, by decide +kernel⟩
def B_levels_of : MS := (sSeq (sAsg (eVar 0) (gTup [(gSet 1), (gSet 2)])) (sRet (eApp F_levels_by (aCons (eVar 1) (aCons (eVar 2) (aCons (eApp mkDict (aCons (eC (.int 0)) (aCons (eC (.tuple [(.int 0), (.int 1)])) (aCons (eOp2 dSub (eVar 1) (eC (.int 1))) (aCons (eC (.tuple [(.int 1), (.int 1)])) aNil))))) (aCons (eOp2 dMul (eApp mkLst (aCons (eC (.tuple [(.int 0), (.int 1)])) aNil)) (eVar 1)) aNil)))))))
def F_levels_of : List D → Option D := runF 1 3 B_levels_of
theorem w_levels_of (T : Txt K mg) (ff : Addr) {f_levels_by : Addr} {fd_levels_by : FuncData} (O_levels_by : FnOk P w K mg base CX0 6 f_levels_by fd_levels_by ["beams", "rooms", "fixed", "leaving"] (spP K F_levels_by 4)) (g_levels_by : mg "levels_by" = some (.ref f_levels_by)) (k_levels_by : PySem.W.keepIn K (.ref f_levels_by) = true) (b_levels_by : Binds K fd_levels_by ["beams", "rooms", "fixed", "leaving"] []) : ∃ W : List Nat, ∀ (cdv : Value) (A : Around) (outer : List Env) (s : Shared) (H : Hp) (E : XK), Room 6 (A.deeper (envOfC "levels_of" (defScope s_levels_of) s.heap.objs.size ff cdv)) → QSs (cxOf CX0 P w K mg base ["plan", "beams", "rooms"] "levels_of" (defScope s_levels_of) ff cdv A outer s H E).nox W (defBody s_levels_of) B_levels_of :=
  ⟨_, fun cdv A outer s H E hr => (qs_cons (qs_asg (qe_var 0) (qg_tup (qgs_cons (qg_name 1 sc_levels_of.nd) (qgs_cons (qg_name 2 sc_levels_of.nd) qgs_nil)))) (qs_one (qs_ret (qe_call O_levels_by (hr.mono (by decide)) g_levels_by k_levels_by b_levels_by (qa_cons (qe_var 1) (qa_cons (qe_var 2) (qa_cons (qe_dict (qp_cons qe_int (qe_glob T.g_NOUGHT) (qp_cons (qe_sub (qe_var 1) qe_int) (qe_glob T.g_ONE) qp_nil))) (qa_cons (qe_mul (qe_lst (qa_cons (qe_glob T.g_NOUGHT) qa_nil)) (qe_var 1)) qa_nil))))))))⟩
theorem ok_levels_of (T : Txt K mg) (X_levels_of : Def K mg "levels_of" "levels_of" s_levels_of ["plan"]) (H_levels_by : Has P w K mg base "levels_by" 6 ["beams", "rooms", "fixed", "leaving"] (spP K F_levels_by 4)) : Has P w K mg base "levels_of" 7 ["plan"] (spP K F_levels_of 1) := by
  obtain ⟨f_levels_by, fd_levels_by, O_levels_by, g_levels_by, k_levels_by, b_levels_by⟩ := H_levels_by
  obtain ⟨ff, fd, FF, gg, bb⟩ := X_levels_of
  obtain ⟨W, hw⟩ := w_levels_of T ff O_levels_by g_levels_by k_levels_by b_levels_by
  have o : FnOk P w K mg base CX0 7 ff fd ["plan"] (spP K (runF 1 3 B_levels_of) 1) := fnP (k := 6) FF sc_levels_of hw
  exact ⟨ff, fd, o, gg, FF.kp, bb⟩
abbrev s_widths_by : Stmt := topS 40
theorem sc_widths_by : FnScope ["rooms", "some", "one", "other", "proportion"] ["rooms", "some"] (defScope s_widths_by) := ⟨rfl, rfl, rfl, by decide +kernel, rfl, by decide +kernel, by decide +kernel⟩
def B_widths_by : MS := (sRet (eApp dTuple (aCons (eLc [2, 3, 4] (iSeq (eVar 0)) (gTup [(gSet 2), (gSet 3), (gSet 4)]) cTrue (eApp F_times (aCons (eVar 4) (aCons (eApp F_minus (aCons (eOp2 dIx (eVar 1) (eVar 3)) (aCons (eOp2 dIx (eVar 1) (eVar 2)) aNil))) aNil)))) aNil)))
def F_widths_by : List D → Option D := runF 2 5 B_widths_by
theorem w_widths_by (T : Txt K mg) (ff : Addr) {f_minus : Addr} {fd_minus : FuncData} (O_minus : FnOk P w K mg base CX0 4 f_minus fd_minus ["one", "other"] (spP K F_minus 2)) (g_minus : mg "minus" = some (.ref f_minus)) (k_minus : PySem.W.keepIn K (.ref f_minus) = true) (b_minus : Binds K fd_minus ["one", "other"] []) {f_times : Addr} {fd_times : FuncData} (O_times : FnOk P w K mg base CX0 3 f_times fd_times ["one", "other"] (spP K F_times 2)) (g_times : mg "times" = some (.ref f_times)) (k_times : PySem.W.keepIn K (.ref f_times) = true) (b_times : Binds K fd_times ["one", "other"] []) : ∃ W : List Nat, ∀ (cdv : Value) (A : Around) (outer : List Env) (s : Shared) (H : Hp) (E : XK), Room 4 (A.deeper (envOfC "widths_by" (defScope s_widths_by) s.heap.objs.size ff cdv)) → QSs (cxOf CX0 P w K mg base ["rooms", "some", "one", "other", "proportion"] "widths_by" (defScope s_widths_by) ff cdv A outer s H E).nox W (defBody s_widths_by) B_widths_by :=
  ⟨_, fun cdv A outer s H E hr => (qs_one (qs_ret (qe_callTy call_tuple_of d_tuple T.b_tuple (qa_cons (qe_lc [("one", 2), ("other", 3), ("proportion", 4)] sc_widths_by.nd (qi_seq (qe_var 0)) (blkOk_by (N := ["rooms", "some", "one", "other", "proportion"]) (sc := (defScope s_widths_by)) (by decide +kernel)) (fun _ _ _ _ _ => (qg_tup (qgs_cons (qg_name 2 sc_widths_by.nd) (qgs_cons (qg_name 3 sc_widths_by.nd) (qgs_cons (qg_name 4 sc_widths_by.nd) qgs_nil))))) (fun _ _ _ _ _ => qts_nil) (fun _ _ _ _ _ => (qe_call O_times (hr.mono (by decide)) g_times k_times b_times (qa_cons (qe_var 4) (qa_cons (qe_call O_minus (hr.mono (by decide)) g_minus k_minus b_minus (qa_cons (qe_ix (qe_var 1) (qe_var 3)) (qa_cons (qe_ix (qe_var 1) (qe_var 2)) qa_nil))) qa_nil))))) qa_nil))))⟩
theorem ok_widths_by (T : Txt K mg) (X_widths_by : Def K mg "widths_by" "widths_by" s_widths_by ["rooms", "some"]) (H_minus : Has P w K mg base "minus" 4 ["one", "other"] (spP K F_minus 2)) (H_times : Has P w K mg base "times" 3 ["one", "other"] (spP K F_times 2)) : Has P w K mg base "widths_by" 5 ["rooms", "some"] (spP K F_widths_by 2) := by
  obtain ⟨f_minus, fd_minus, O_minus, g_minus, k_minus, b_minus⟩ := H_minus
  obtain ⟨f_times, fd_times, O_times, g_times, k_times, b_times⟩ := H_times
  obtain ⟨ff, fd, FF, gg, bb⟩ := X_widths_by
  obtain ⟨W, hw⟩ := w_widths_by T ff O_minus g_minus k_minus b_minus O_times g_times k_times b_times
  have o : FnOk P w K mg base CX0 5 ff fd ["rooms", "some"] (spP K (runF 2 5 B_widths_by) 2) := fnP (k := 4) FF sc_widths_by hw
  exact ⟨ff, fd, o, gg, FF.kp, bb⟩
abbrev s_hanging : Stmt := topS 41
theorem sc_hanging : FnScope ["rooms", "some", "beam", "parts", "width", "one", "other", "proportion"] ["rooms", "some", "beam"] (defScope s_hanging) := ⟨rfl, rfl, rfl, by decide +kernel, rfl, by decide +kernel, by decide +kernel⟩
def B_hanging : MS := (sSeq (sOwn 3 (oLst aNil)) (sSeq (sFor (iApp zipD (aCons (eVar 0) (aCons (eVar 1) aNil))) (gTup [(gTup [(gSet 5), (gSet 6), (gSet 7)]), (gSet 4)]) (sIf (cV (eOp2 dEq (eVar 2) (eVar 5))) (sDrop (eAppend 3 (eVar 4))) (sIf (cV (eOp2 dEq (eVar 2) (eVar 6))) (sDrop (eAppend 3 (eApp F_less (aCons (eVar 4) aNil)))) sNil))) (sRet (eApp F_total (aCons (eVar 3) aNil)))))
def F_hanging : List D → Option D := runF 3 8 B_hanging
theorem w_hanging (T : Txt K mg) (ff : Addr) {f_less : Addr} {fd_less : FuncData} (O_less : FnOk P w K mg base CX0 1 f_less fd_less ["one"] (spP K F_less 1)) (g_less : mg "less" = some (.ref f_less)) (k_less : PySem.W.keepIn K (.ref f_less) = true) (b_less : Binds K fd_less ["one"] []) {f_total : Addr} {fd_total : FuncData} (O_total : FnOk P w K mg base CX0 4 f_total fd_total ["some"] (spP K F_total 1)) (g_total : mg "total" = some (.ref f_total)) (k_total : PySem.W.keepIn K (.ref f_total) = true) (b_total : Binds K fd_total ["some"] []) : ∃ W : List Nat, ∀ (cdv : Value) (A : Around) (outer : List Env) (s : Shared) (H : Hp) (E : XK), Room 4 (A.deeper (envOfC "hanging" (defScope s_hanging) s.heap.objs.size ff cdv)) → QSs (cxOf CX0 P w K mg base ["rooms", "some", "beam", "parts", "width", "one", "other", "proportion"] "hanging" (defScope s_hanging) ff cdv A outer s H E).nox W (defBody s_hanging) B_hanging :=
  ⟨_, fun cdv A outer s H E hr => (qs_cons (qs_own 3 sc_hanging.nd (qo_lst qa_nil)) (qs_cons (qs_for (qi_zip T.b_zip (qa_cons (qe_var 0) (qa_cons (qe_var 1) qa_nil))) (qg_tup (qgs_cons (qg_tup (qgs_cons (qg_name 5 sc_hanging.nd) (qgs_cons (qg_name 6 sc_hanging.nd) (qgs_cons (qg_name 7 sc_hanging.nd) qgs_nil)))) (qgs_cons (qg_name 4 sc_hanging.nd) qgs_nil))) (qs_one (qs_if (qt_cmp (op_eqD hr.units) d_eq (qe_var 2) (qe_var 5)) (qs_one (qs_expr (qe_append 3 (qe_var 4)))) (qs_one (qs_if (qt_cmp (op_eqD hr.units) d_eq (qe_var 2) (qe_var 6)) (qs_one (qs_expr (qe_append 3 (qe_call O_less (hr.mono (by decide)) g_less k_less b_less (qa_cons (qe_var 4) qa_nil))))) qs_nil))))) (qs_one (qs_ret (qe_call O_total (hr.mono (by decide)) g_total k_total b_total (qa_cons (qe_var 3) qa_nil))))))⟩
theorem ok_hanging (T : Txt K mg) (X_hanging : Def K mg "hanging" "hanging" s_hanging ["rooms", "some", "beam"]) (H_less : Has P w K mg base "less" 1 ["one"] (spP K F_less 1)) (H_total : Has P w K mg base "total" 4 ["some"] (spP K F_total 1)) : Has P w K mg base "hanging" 5 ["rooms", "some", "beam"] (spP K F_hanging 3) := by
  obtain ⟨f_less, fd_less, O_less, g_less, k_less, b_less⟩ := H_less
  obtain ⟨f_total, fd_total, O_total, g_total, k_total, b_total⟩ := H_total
  obtain ⟨ff, fd, FF, gg, bb⟩ := X_hanging
  obtain ⟨W, hw⟩ := w_hanging T ff O_less g_less k_less b_less O_total g_total k_total b_total
  have o : FnOk P w K mg base CX0 5 ff fd ["rooms", "some", "beam"] (spP K (runF 3 8 B_hanging) 3) := fnP (k := 4) FF sc_hanging hw
  exact ⟨ff, fd, o, gg, FF.kp, bb⟩
abbrev s_hall_of : Stmt := topS 42
theorem sc_hall_of : FnScope ["plan"] ["plan"] (defScope s_hall_of) := ⟨rfl, rfl, rfl, by decide +kernel, rfl, by decide +kernel, by decide +kernel⟩
def B_hall_of : MS := (sRet (eApp F_hanging (aCons (eOp2 dIx (eVar 0) (eC (.int 1))) (aCons (eApp F_widths_by (aCons (eOp2 dIx (eVar 0) (eC (.int 1))) (aCons (eApp F_levels_of (aCons (eVar 0) aNil)) aNil))) (aCons (eC (.int 0)) aNil)))))
def F_hall_of : List D → Option D := runF 1 1 B_hall_of
theorem w_hall_of (T : Txt K mg) (ff : Addr) {f_hanging : Addr} {fd_hanging : FuncData} (O_hanging : FnOk P w K mg base CX0 5 f_hanging fd_hanging ["rooms", "some", "beam"] (spP K F_hanging 3)) (g_hanging : mg "hanging" = some (.ref f_hanging)) (k_hanging : PySem.W.keepIn K (.ref f_hanging) = true) (b_hanging : Binds K fd_hanging ["rooms", "some", "beam"] []) {f_levels_of : Addr} {fd_levels_of : FuncData} (O_levels_of : FnOk P w K mg base CX0 7 f_levels_of fd_levels_of ["plan"] (spP K F_levels_of 1)) (g_levels_of : mg "levels_of" = some (.ref f_levels_of)) (k_levels_of : PySem.W.keepIn K (.ref f_levels_of) = true) (b_levels_of : Binds K fd_levels_of ["plan"] []) {f_widths_by : Addr} {fd_widths_by : FuncData} (O_widths_by : FnOk P w K mg base CX0 5 f_widths_by fd_widths_by ["rooms", "some"] (spP K F_widths_by 2)) (g_widths_by : mg "widths_by" = some (.ref f_widths_by)) (k_widths_by : PySem.W.keepIn K (.ref f_widths_by) = true) (b_widths_by : Binds K fd_widths_by ["rooms", "some"] []) : ∃ W : List Nat, ∀ (cdv : Value) (A : Around) (outer : List Env) (s : Shared) (H : Hp) (E : XK), Room 7 (A.deeper (envOfC "hall_of" (defScope s_hall_of) s.heap.objs.size ff cdv)) → QSs (cxOf CX0 P w K mg base ["plan"] "hall_of" (defScope s_hall_of) ff cdv A outer s H E).nox W (defBody s_hall_of) B_hall_of :=
  ⟨_, fun cdv A outer s H E hr => (qs_one (qs_ret (qe_call O_hanging (hr.mono (by decide)) g_hanging k_hanging b_hanging (qa_cons (qe_ix (qe_var 0) qe_int) (qa_cons (qe_call O_widths_by (hr.mono (by decide)) g_widths_by k_widths_by b_widths_by (qa_cons (qe_ix (qe_var 0) qe_int) (qa_cons (qe_call O_levels_of (hr.mono (by decide)) g_levels_of k_levels_of b_levels_of (qa_cons (qe_var 0) qa_nil)) qa_nil))) (qa_cons qe_int qa_nil))))))⟩
theorem ok_hall_of (T : Txt K mg) (X_hall_of : Def K mg "hall_of" "hall_of" s_hall_of ["plan"]) (H_hanging : Has P w K mg base "hanging" 5 ["rooms", "some", "beam"] (spP K F_hanging 3)) (H_levels_of : Has P w K mg base "levels_of" 7 ["plan"] (spP K F_levels_of 1)) (H_widths_by : Has P w K mg base "widths_by" 5 ["rooms", "some"] (spP K F_widths_by 2)) : Has P w K mg base "hall_of" 8 ["plan"] (spP K F_hall_of 1) := by
  obtain ⟨f_hanging, fd_hanging, O_hanging, g_hanging, k_hanging, b_hanging⟩ := H_hanging
  obtain ⟨f_levels_of, fd_levels_of, O_levels_of, g_levels_of, k_levels_of, b_levels_of⟩ := H_levels_of
  obtain ⟨f_widths_by, fd_widths_by, O_widths_by, g_widths_by, k_widths_by, b_widths_by⟩ := H_widths_by
  obtain ⟨ff, fd, FF, gg, bb⟩ := X_hall_of
  obtain ⟨W, hw⟩ := w_hall_of T ff O_hanging g_hanging k_hanging b_hanging O_levels_of g_levels_of k_levels_of b_levels_of O_widths_by g_widths_by k_widths_by b_widths_by
  have o : FnOk P w K mg base CX0 8 ff fd ["plan"] (spP K (runF 1 1 B_hall_of) 1) := fnP (k := 7) FF sc_hall_of hw
  exact ⟨ff, fd, o, gg, FF.kp, bb⟩
abbrev s_hall : Stmt := topS 43
theorem sc_hall : FnScope ["plan"] ["plan"] (defScope s_hall) := ⟨rfl, rfl, rfl, by decide +kernel, rfl, by decide +kernel, by decide +kernel⟩
def B_hall : MS := (sSeq (sDrop (eApp F_need_plan (aCons (eVar 0) aNil))) (sRet (eApp F_hall_of (aCons (eVar 0) aNil))))
def F_hall : List D → Option D := runF 1 1 B_hall
theorem w_hall (T : Txt K mg) (ff : Addr) {f_hall_of : Addr} {fd_hall_of : FuncData} (O_hall_of : FnOk P w K mg base CX0 8 f_hall_of fd_hall_of ["plan"] (spP K F_hall_of 1)) (g_hall_of : mg "hall_of" = some (.ref f_hall_of)) (k_hall_of : PySem.W.keepIn K (.ref f_hall_of) = true) (b_hall_of : Binds K fd_hall_of ["plan"] []) {f_need_plan : Addr} {fd_need_plan : FuncData} (O_need_plan : FnOk P w K mg base CX0 6 f_need_plan fd_need_plan ["plan"] (spP K F_need_plan 1)) (g_need_plan : mg "need_plan" = some (.ref f_need_plan)) (k_need_plan : PySem.W.keepIn K (.ref f_need_plan) = true) (b_need_plan : Binds K fd_need_plan ["plan"] []) : ∃ W : List Nat, ∀ (cdv : Value) (A : Around) (outer : List Env) (s : Shared) (H : Hp) (E : XK), Room 8 (A.deeper (envOfC "hall" (defScope s_hall) s.heap.objs.size ff cdv)) → QSs (cxOf CX0 P w K mg base ["plan"] "hall" (defScope s_hall) ff cdv A outer s H E).nox W (defBody s_hall) B_hall :=
  ⟨_, fun cdv A outer s H E hr => (qs_cons (qs_expr (qe_call O_need_plan (hr.mono (by decide)) g_need_plan k_need_plan b_need_plan (qa_cons (qe_var 0) qa_nil))) (qs_one (qs_ret (qe_call O_hall_of (hr.mono (by decide)) g_hall_of k_hall_of b_hall_of (qa_cons (qe_var 0) qa_nil)))))⟩
theorem ok_hall (T : Txt K mg) (X_hall : Def K mg "hall" "hall" s_hall ["plan"]) (H_hall_of : Has P w K mg base "hall_of" 8 ["plan"] (spP K F_hall_of 1)) (H_need_plan : Has P w K mg base "need_plan" 6 ["plan"] (spP K F_need_plan 1)) : Has P w K mg base "hall" 9 ["plan"] (spP K F_hall 1) := by
  obtain ⟨f_hall_of, fd_hall_of, O_hall_of, g_hall_of, k_hall_of, b_hall_of⟩ := H_hall_of
  obtain ⟨f_need_plan, fd_need_plan, O_need_plan, g_need_plan, k_need_plan, b_need_plan⟩ := H_need_plan
  obtain ⟨ff, fd, FF, gg, bb⟩ := X_hall
  obtain ⟨W, hw⟩ := w_hall T ff O_hall_of g_hall_of k_hall_of b_hall_of O_need_plan g_need_plan k_need_plan b_need_plan
  have o : FnOk P w K mg base CX0 9 ff fd ["plan"] (spP K (runF 1 1 B_hall) 1) := fnP (k := 8) FF sc_hall hw
  exact ⟨ff, fd, o, gg, FF.kp, bb⟩
abbrev s_with_room : Stmt := topS 45
theorem sc_with_room : FnScope ["plan", "room"] ["plan", "room"] (defScope s_with_room) := ⟨rfl, rfl, rfl, by decide +kernel, rfl, by decide +kernel, by decide +kernel⟩
def B_with_room : MS := (sSeq (sDrop (eApp F_need_plan (aCons (eVar 0) aNil))) (sSeq (sIf (cOr (cNot (cV (eApp F_is_room (aCons (eOp2 dIx (eVar 0) (eC (.int 0))) (aCons (eVar 1) aNil))))) (cV (eOp2 dEq (eApp dLen (aCons (eOp2 dIx (eVar 0) (eC (.int 1))) aNil)) (eC (.int 15))))) sNever sNil) (sRet (eApp mkTup (aCons (eOp2 dIx (eVar 0) (eC (.int 0))) (aCons (eOp2 dAdd (eOp2 dIx (eVar 0) (eC (.int 1))) (eApp mkTup (aCons (eVar 1) aNil))) aNil))))))
def F_with_room : List D → Option D := runF 2 2 B_with_room
theorem w_with_room (T : Txt K mg) (ff : Addr) {f_is_room : Addr} {fd_is_room : FuncData} (O_is_room : FnOk P w K mg base CX0 4 f_is_room fd_is_room ["beams", "thing"] (spP K F_is_room 2)) (g_is_room : mg "is_room" = some (.ref f_is_room)) (k_is_room : PySem.W.keepIn K (.ref f_is_room) = true) (b_is_room : Binds K fd_is_room ["beams", "thing"] []) {f_need_plan : Addr} {fd_need_plan : FuncData} (O_need_plan : FnOk P w K mg base CX0 6 f_need_plan fd_need_plan ["plan"] (spP K F_need_plan 1)) (g_need_plan : mg "need_plan" = some (.ref f_need_plan)) (k_need_plan : PySem.W.keepIn K (.ref f_need_plan) = true) (b_need_plan : Binds K fd_need_plan ["plan"] []) : ∃ W : List Nat, ∀ (cdv : Value) (A : Around) (outer : List Env) (s : Shared) (H : Hp) (E : XK), Room 6 (A.deeper (envOfC "with_room" (defScope s_with_room) s.heap.objs.size ff cdv)) → QSs (cxOf CX0 P w K mg base ["plan", "room"] "with_room" (defScope s_with_room) ff cdv A outer s H E).nox W (defBody s_with_room) B_with_room :=
  ⟨_, fun cdv A outer s H E hr => (qs_cons (qs_expr (qe_call O_need_plan (hr.mono (by decide)) g_need_plan k_need_plan b_need_plan (qa_cons (qe_var 0) qa_nil))) (qs_cons (qs_if (qw_pt (qw_or (qt_not (qt_val (qe_call O_is_room (hr.mono (by decide)) g_is_room k_is_room b_is_room (qa_cons (qe_ix (qe_var 0) qe_int) (qa_cons (qe_var 1) qa_nil))))) (qw_or1 (qt_cmp (op_eqD hr.units) d_eq (qe_callB call_len_seq d_len T.b_len (qa_cons (qe_ix (qe_var 0) qe_int) qa_nil)) (qe_glob T.g_ROOMS))))) (qs_one qs_never) qs_nil) (qs_one (qs_ret (qe_tup (qa_cons (qe_ix (qe_var 0) qe_int) (qa_cons (qe_add (qe_ix (qe_var 0) qe_int) (qe_tup (qa_cons (qe_var 1) qa_nil))) qa_nil)))))))⟩
theorem ok_with_room (T : Txt K mg) (X_with_room : Def K mg "with_room" "with_room" s_with_room ["plan", "room"]) (H_is_room : Has P w K mg base "is_room" 4 ["beams", "thing"] (spP K F_is_room 2)) (H_need_plan : Has P w K mg base "need_plan" 6 ["plan"] (spP K F_need_plan 1)) : Has P w K mg base "with_room" 7 ["plan", "room"] (spP K F_with_room 2) := by
  obtain ⟨f_is_room, fd_is_room, O_is_room, g_is_room, k_is_room, b_is_room⟩ := H_is_room
  obtain ⟨f_need_plan, fd_need_plan, O_need_plan, g_need_plan, k_need_plan, b_need_plan⟩ := H_need_plan
  obtain ⟨ff, fd, FF, gg, bb⟩ := X_with_room
  obtain ⟨W, hw⟩ := w_with_room T ff O_is_room g_is_room k_is_room b_is_room O_need_plan g_need_plan k_need_plan b_need_plan
  have o : FnOk P w K mg base CX0 7 ff fd ["plan", "room"] (spP K (runF 2 2 B_with_room) 2) := fnP (k := 6) FF sc_with_room hw
  exact ⟨ff, fd, o, gg, FF.kp, bb⟩
abbrev s_need_number : Stmt := topS 46
theorem sc_need_number : FnScope ["plan", "number"] ["plan", "number"] (defScope s_need_number) := ⟨rfl, rfl, rfl, by decide +kernel, rfl, by decide +kernel, by decide +kernel⟩
def B_need_number : MS := (sSeq (sDrop (eApp F_need_plan (aCons (eVar 0) aNil))) (sIf (cNot (cV (eApp F_is_whole (aCons (eVar 1) (aCons (eC (.int 0)) (aCons (eOp2 dSub (eApp dLen (aCons (eOp2 dIx (eVar 0) (eC (.int 1))) aNil)) (eC (.int 1))) aNil)))))) sNever sNil))
def F_need_number : List D → Option D := runF 2 2 B_need_number
theorem w_need_number (T : Txt K mg) (ff : Addr) {f_is_whole : Addr} {fd_is_whole : FuncData} (O_is_whole : FnOk P w K mg base CX0 2 f_is_whole fd_is_whole ["thing", "low", "high"] (spP K F_is_whole 3)) (g_is_whole : mg "is_whole" = some (.ref f_is_whole)) (k_is_whole : PySem.W.keepIn K (.ref f_is_whole) = true) (b_is_whole : Binds K fd_is_whole ["thing", "low", "high"] []) {f_need_plan : Addr} {fd_need_plan : FuncData} (O_need_plan : FnOk P w K mg base CX0 6 f_need_plan fd_need_plan ["plan"] (spP K F_need_plan 1)) (g_need_plan : mg "need_plan" = some (.ref f_need_plan)) (k_need_plan : PySem.W.keepIn K (.ref f_need_plan) = true) (b_need_plan : Binds K fd_need_plan ["plan"] []) : ∃ W : List Nat, ∀ (cdv : Value) (A : Around) (outer : List Env) (s : Shared) (H : Hp) (E : XK), Room 6 (A.deeper (envOfC "need_number" (defScope s_need_number) s.heap.objs.size ff cdv)) → QSs (cxOf CX0 P w K mg base ["plan", "number"] "need_number" (defScope s_need_number) ff cdv A outer s H E).nox W (defBody s_need_number) B_need_number :=
  ⟨_, fun cdv A outer s H E hr => (qs_cons (qs_expr (qe_call O_need_plan (hr.mono (by decide)) g_need_plan k_need_plan b_need_plan (qa_cons (qe_var 0) qa_nil))) (qs_one (qs_if (qt_not (qt_val (qe_call O_is_whole (hr.mono (by decide)) g_is_whole k_is_whole b_is_whole (qa_cons (qe_var 1) (qa_cons qe_int (qa_cons (qe_sub (qe_callB call_len_seq d_len T.b_len (qa_cons (qe_ix (qe_var 0) qe_int) qa_nil)) qe_int) qa_nil)))))) (qs_one qs_never) qs_nil)))⟩
theorem ok_need_number (T : Txt K mg) (X_need_number : Def K mg "need_number" "need_number" s_need_number ["plan", "number"]) (H_is_whole : Has P w K mg base "is_whole" 2 ["thing", "low", "high"] (spP K F_is_whole 3)) (H_need_plan : Has P w K mg base "need_plan" 6 ["plan"] (spP K F_need_plan 1)) : Has P w K mg base "need_number" 7 ["plan", "number"] (spP K F_need_number 2) := by
  obtain ⟨f_is_whole, fd_is_whole, O_is_whole, g_is_whole, k_is_whole, b_is_whole⟩ := H_is_whole
  obtain ⟨f_need_plan, fd_need_plan, O_need_plan, g_need_plan, k_need_plan, b_need_plan⟩ := H_need_plan
  obtain ⟨ff, fd, FF, gg, bb⟩ := X_need_number
  obtain ⟨W, hw⟩ := w_need_number T ff O_is_whole g_is_whole k_is_whole b_is_whole O_need_plan g_need_plan k_need_plan b_need_plan
  have o : FnOk P w K mg base CX0 7 ff fd ["plan", "number"] (spP K (runF 2 2 B_need_number) 2) := fnP (k := 6) FF sc_need_number hw
  exact ⟨ff, fd, o, gg, FF.kp, bb⟩
abbrev s_without_room : Stmt := topS 47
theorem sc_without_room : FnScope ["plan", "number", "rooms"] ["plan", "number"] (defScope s_without_room) := ⟨rfl, rfl, rfl, by decide +kernel, rfl, by decide +kernel, by decide +kernel⟩
def B_without_room : MS := (sSeq (sDrop (eApp F_need_number (aCons (eVar 0) (aCons (eVar 1) aNil)))) (sSeq (sAsg (eOp2 dAddT (eSlice (eOp2 dIx (eVar 0) (eC (.int 1))) pNone (pSome (eVar 1))) (eSlice (eOp2 dIx (eVar 0) (eC (.int 1))) (pSome (eOp2 dAdd (eVar 1) (eC (.int 1)))) pNone)) (gSet 2)) (sSeq (sIf (cNot (cV (eApp F_hangs_together (aCons (eOp2 dIx (eVar 0) (eC (.int 0))) (aCons (eVar 2) aNil))))) sNever sNil) (sRet (eApp mkTup (aCons (eOp2 dIx (eVar 0) (eC (.int 0))) (aCons (eVar 2) aNil)))))))
def F_without_room : List D → Option D := runF 2 3 B_without_room
theorem w_without_room (T : Txt K mg) (ff : Addr) {f_hangs_together : Addr} {fd_hangs_together : FuncData} (O_hangs_together : FnOk P w K mg base CX0 2 f_hangs_together fd_hangs_together ["beams", "rooms"] (spP K F_hangs_together 2)) (g_hangs_together : mg "hangs_together" = some (.ref f_hangs_together)) (k_hangs_together : PySem.W.keepIn K (.ref f_hangs_together) = true) (b_hangs_together : Binds K fd_hangs_together ["beams", "rooms"] []) {f_need_number : Addr} {fd_need_number : FuncData} (O_need_number : FnOk P w K mg base CX0 7 f_need_number fd_need_number ["plan", "number"] (spP K F_need_number 2)) (g_need_number : mg "need_number" = some (.ref f_need_number)) (k_need_number : PySem.W.keepIn K (.ref f_need_number) = true) (b_need_number : Binds K fd_need_number ["plan", "number"] []) : ∃ W : List Nat, ∀ (cdv : Value) (A : Around) (outer : List Env) (s : Shared) (H : Hp) (E : XK), Room 7 (A.deeper (envOfC "without_room" (defScope s_without_room) s.heap.objs.size ff cdv)) → QSs (cxOf CX0 P w K mg base ["plan", "number", "rooms"] "without_room" (defScope s_without_room) ff cdv A outer s H E).nox W (defBody s_without_room) B_without_room :=
  ⟨_, fun cdv A outer s H E hr => (qs_cons (qs_expr (qe_call O_need_number (hr.mono (by decide)) g_need_number k_need_number b_need_number (qa_cons (qe_var 0) (qa_cons (qe_var 1) qa_nil)))) (qs_cons (qs_set 2 sc_without_room.nd (qe_addT (qe_slice (qe_ix (qe_var 0) qe_int) qpo_none (qpo_some (qe_var 1))) (qe_slice (qe_ix (qe_var 0) qe_int) (qpo_some (qe_add (qe_var 1) qe_int)) qpo_none))) (qs_cons (qs_if (qt_not (qt_val (qe_call O_hangs_together (hr.mono (by decide)) g_hangs_together k_hangs_together b_hangs_together (qa_cons (qe_ix (qe_var 0) qe_int) (qa_cons (qe_var 2) qa_nil))))) (qs_one qs_never) qs_nil) (qs_one (qs_ret (qe_tup (qa_cons (qe_ix (qe_var 0) qe_int) (qa_cons (qe_var 2) qa_nil))))))))⟩
theorem ok_without_room (T : Txt K mg) (X_without_room : Def K mg "without_room" "without_room" s_without_room ["plan", "number"]) (H_hangs_together : Has P w K mg base "hangs_together" 2 ["beams", "rooms"] (spP K F_hangs_together 2)) (H_need_number : Has P w K mg base "need_number" 7 ["plan", "number"] (spP K F_need_number 2)) : Has P w K mg base "without_room" 8 ["plan", "number"] (spP K F_without_room 2) := by
  obtain ⟨f_hangs_together, fd_hangs_together, O_hangs_together, g_hangs_together, k_hangs_together, b_hangs_together⟩ := H_hangs_together
  obtain ⟨f_need_number, fd_need_number, O_need_number, g_need_number, k_need_number, b_need_number⟩ := H_need_number
  obtain ⟨ff, fd, FF, gg, bb⟩ := X_without_room
  obtain ⟨W, hw⟩ := w_without_room T ff O_hangs_together g_hangs_together k_hangs_together b_hangs_together O_need_number g_need_number k_need_number b_need_number
  have o : FnOk P w K mg base CX0 8 ff fd ["plan", "number"] (spP K (runF 2 3 B_without_room) 2) := fnP (k := 7) FF sc_without_room hw
  exact ⟨ff, fd, o, gg, FF.kp, bb⟩
def BX_without_room : MXS := (xCons (xLift (sDrop (eApp F_need_number (aCons (eVar 0) (aCons (eVar 1) aNil))))) (xCons (xLift (sAsg (eOp2 dAddT (eSlice (eOp2 dIx (eVar 0) (eC (.int 1))) pNone (pSome (eVar 1))) (eSlice (eOp2 dIx (eVar 0) (eC (.int 1))) (pSome (eOp2 dAdd (eVar 1) (eC (.int 1)))) pNone)) (gSet 2))) (xCons (xIfS (cNot (cV (eApp F_hangs_together (aCons (eOp2 dIx (eVar 0) (eC (.int 0))) (aCons (eVar 2) aNil))))) (xRaise "Parted") (xLift sNil)) (xLift (sRet (eApp mkTup (aCons (eOp2 dIx (eVar 0) (eC (.int 0))) (aCons (eVar 2) aNil))))))))
def G_without_room : List D → Option (Ex D) := runX 2 3 BX_without_room
theorem wX_without_room (T : Txt K mg) (ff : Addr) {f_hangs_together : Addr} {fd_hangs_together : FuncData} (O_hangs_together : FnOk P w K mg base CX0 2 f_hangs_together fd_hangs_together ["beams", "rooms"] (spP K F_hangs_together 2)) (g_hangs_together : mg "hangs_together" = some (.ref f_hangs_together)) (k_hangs_together : PySem.W.keepIn K (.ref f_hangs_together) = true) (b_hangs_together : Binds K fd_hangs_together ["beams", "rooms"] []) {f_need_number : Addr} {fd_need_number : FuncData} (O_need_number : FnOk P w K mg base CX0 7 f_need_number fd_need_number ["plan", "number"] (spP K F_need_number 2)) (g_need_number : mg "need_number" = some (.ref f_need_number)) (k_need_number : PySem.W.keepIn K (.ref f_need_number) = true) (b_need_number : Binds K fd_need_number ["plan", "number"] []) : ∃ W : List Nat, ∀ (cdv : Value) (A : Around) (outer : List Env) (s : Shared) (H : Hp) (E : XK), Room 7 (A.deeper (envOfC "without_room" (defScope s_without_room) s.heap.objs.size ff cdv)) → PSs (cxOf (L2.CX P w) P w K mg base ["plan", "number", "rooms"] "without_room" (defScope s_without_room) ff cdv A outer s H E) (defBody s_without_room) (tZS K (cmOf mg) (fun cls d _ H => E cls d H) W BX_without_room) :=
  ⟨_, fun cdv A outer s H E hr => (xss_cons (xs_lift (qs_expr (qe_call O_need_number (hr.mono (by decide)) g_need_number k_need_number b_need_number (qa_cons (qe_var 0) (qa_cons (qe_var 1) qa_nil))))) (xss_cons (xs_lift (qs_set 2 sc_without_room.nd (qe_addT (qe_slice (qe_ix (qe_var 0) qe_int) qpo_none (qpo_some (qe_var 1))) (qe_slice (qe_ix (qe_var 0) qe_int) (qpo_some (qe_add (qe_var 1) qe_int)) qpo_none)))) (xss_cons (xs_if (qt_not (qt_val (qe_call O_hangs_together (hr.mono (by decide)) g_hangs_together k_hangs_together b_hangs_together (qa_cons (qe_ix (qe_var 0) qe_int) (qa_cons (qe_var 2) qa_nil))))) (xss_one (xs_raise PySem.F.excBase_ValueError T.c_Parted takes_cx)) (xss_lift qs_nil)) (xss_one (xs_lift (qs_ret (qe_tup (qa_cons (qe_ix (qe_var 0) qe_int) (qa_cons (qe_var 2) qa_nil)))))))))⟩
theorem okX_without_room (T : Txt K mg) (X_without_room : Def K mg "without_room" "without_room" s_without_room ["plan", "number"]) (H_hangs_together : Has P w K mg base "hangs_together" 2 ["beams", "rooms"] (spP K F_hangs_together 2)) (H_need_number : Has P w K mg base "need_number" 7 ["plan", "number"] (spP K F_need_number 2)) : HasE P w K mg base "without_room" 8 ["plan", "number"] (spX K (cmOf mg) G_without_room 2) := by
  obtain ⟨f_hangs_together, fd_hangs_together, O_hangs_together, g_hangs_together, k_hangs_together, b_hangs_together⟩ := H_hangs_together
  obtain ⟨f_need_number, fd_need_number, O_need_number, g_need_number, k_need_number, b_need_number⟩ := H_need_number
  obtain ⟨ff, fd, FF, gg, bb⟩ := X_without_room
  obtain ⟨W, hw⟩ := wX_without_room T ff O_hangs_together g_hangs_together k_hangs_together b_hangs_together O_need_number g_need_number k_need_number b_need_number
  have o : FnOk P w K mg base (L2.CX P w) 8 ff fd ["plan", "number"] (spX K (cmOf mg) (runX 2 3 BX_without_room) 2) := fnX (k := 7) FF sc_without_room hw
  exact ⟨ff, fd, o, gg, FF.kp, bb⟩
abbrev s_wider : Stmt := topS 48
theorem sc_wider : FnScope ["plan", "number", "proportion", "one", "other", "own"] ["plan", "number", "proportion"] (defScope s_wider) := ⟨rfl, rfl, rfl, by decide +kernel, rfl, by decide +kernel, by decide +kernel⟩
def B_wider : MS := (sSeq (sDrop (eApp F_need_number (aCons (eVar 0) (aCons (eVar 1) aNil)))) (sSeq (sIf (cNot (cV (eApp F_is_proportion (aCons (eVar 2) aNil)))) sNever sNil) (sSeq (sAsg (eOp2 dIx (eOp2 dIx (eVar 0) (eC (.int 1))) (eVar 1)) (gTup [(gSet 3), (gSet 4), (gSet 5)])) (sRet (eApp mkTup (aCons (eOp2 dIx (eVar 0) (eC (.int 0))) (aCons (eOp2 dAddT (eOp2 dAddT (eSlice (eOp2 dIx (eVar 0) (eC (.int 1))) pNone (pSome (eVar 1))) (eApp mkTup (aCons (eApp mkTup (aCons (eVar 3) (aCons (eVar 4) (aCons (eVar 2) aNil)))) aNil))) (eSlice (eOp2 dIx (eVar 0) (eC (.int 1))) (pSome (eOp2 dAdd (eVar 1) (eC (.int 1)))) pNone)) aNil)))))))
def F_wider : List D → Option D := runF 3 6 B_wider
theorem w_wider (T : Txt K mg) (ff : Addr) {f_is_proportion : Addr} {fd_is_proportion : FuncData} (O_is_proportion : FnOk P w K mg base CX0 3 f_is_proportion fd_is_proportion ["thing"] (spP K F_is_proportion 1)) (g_is_proportion : mg "is_proportion" = some (.ref f_is_proportion)) (k_is_proportion : PySem.W.keepIn K (.ref f_is_proportion) = true) (b_is_proportion : Binds K fd_is_proportion ["thing"] []) {f_need_number : Addr} {fd_need_number : FuncData} (O_need_number : FnOk P w K mg base CX0 7 f_need_number fd_need_number ["plan", "number"] (spP K F_need_number 2)) (g_need_number : mg "need_number" = some (.ref f_need_number)) (k_need_number : PySem.W.keepIn K (.ref f_need_number) = true) (b_need_number : Binds K fd_need_number ["plan", "number"] []) : ∃ W : List Nat, ∀ (cdv : Value) (A : Around) (outer : List Env) (s : Shared) (H : Hp) (E : XK), Room 7 (A.deeper (envOfC "wider" (defScope s_wider) s.heap.objs.size ff cdv)) → QSs (cxOf CX0 P w K mg base ["plan", "number", "proportion", "one", "other", "own"] "wider" (defScope s_wider) ff cdv A outer s H E).nox W (defBody s_wider) B_wider :=
  ⟨_, fun cdv A outer s H E hr => (qs_cons (qs_expr (qe_call O_need_number (hr.mono (by decide)) g_need_number k_need_number b_need_number (qa_cons (qe_var 0) (qa_cons (qe_var 1) qa_nil)))) (qs_cons (qs_if (qt_not (qt_val (qe_call O_is_proportion (hr.mono (by decide)) g_is_proportion k_is_proportion b_is_proportion (qa_cons (qe_var 2) qa_nil)))) (qs_one qs_never) qs_nil) (qs_cons (qs_asg (qe_ix (qe_ix (qe_var 0) qe_int) (qe_var 1)) (qg_tup (qgs_cons (qg_name 3 sc_wider.nd) (qgs_cons (qg_name 4 sc_wider.nd) (qgs_cons (qg_name 5 sc_wider.nd) qgs_nil))))) (qs_one (qs_ret (qe_tup (qa_cons (qe_ix (qe_var 0) qe_int) (qa_cons (qe_addT (qe_addT (qe_slice (qe_ix (qe_var 0) qe_int) qpo_none (qpo_some (qe_var 1))) (qe_tup (qa_cons (qe_tup (qa_cons (qe_var 3) (qa_cons (qe_var 4) (qa_cons (qe_var 2) qa_nil)))) qa_nil))) (qe_slice (qe_ix (qe_var 0) qe_int) (qpo_some (qe_add (qe_var 1) qe_int)) qpo_none)) qa_nil))))))))⟩
theorem ok_wider (T : Txt K mg) (X_wider : Def K mg "wider" "wider" s_wider ["plan", "number", "proportion"]) (H_is_proportion : Has P w K mg base "is_proportion" 3 ["thing"] (spP K F_is_proportion 1)) (H_need_number : Has P w K mg base "need_number" 7 ["plan", "number"] (spP K F_need_number 2)) : Has P w K mg base "wider" 8 ["plan", "number", "proportion"] (spP K F_wider 3) := by
  obtain ⟨f_is_proportion, fd_is_proportion, O_is_proportion, g_is_proportion, k_is_proportion, b_is_proportion⟩ := H_is_proportion
  obtain ⟨f_need_number, fd_need_number, O_need_number, g_need_number, k_need_number, b_need_number⟩ := H_need_number
  obtain ⟨ff, fd, FF, gg, bb⟩ := X_wider
  obtain ⟨W, hw⟩ := w_wider T ff O_is_proportion g_is_proportion k_is_proportion b_is_proportion O_need_number g_need_number k_need_number b_need_number
  have o : FnOk P w K mg base CX0 8 ff fd ["plan", "number", "proportion"] (spP K (runF 3 6 B_wider) 3) := fnP (k := 7) FF sc_wider hw
  exact ⟨ff, fd, o, gg, FF.kp, bb⟩
abbrev s__law_cell_at : Stmt := topS 50
theorem sc__law_cell_at : FnScope ["script", "k", "spare", "again"] ["script", "k"] (defScope s__law_cell_at) := ⟨rfl, rfl, rfl, by decide +kernel, rfl, by decide +kernel, by decide +kernel⟩
def B__law_cell_at : MS := (sSeq (sIf (cV (eOp2 dLt (eVar 1) (eLenS 0))) (sRet (eIxS 0 (eVar 1))) sNil) (sSeq (sIf (cV (eEqNilS 0)) (sRet (eC (.int 0))) sNil) (sSeq (sAsg (eIxS 0 (eOp2 dMod (eVar 1) (eLenS 0))) (gSet 2)) (sSeq (sFor (iApp rng1 (aCons (eApp dMin (aCons (eOp2 dDiv (eVar 1) (eLenS 0)) (aCons (eC (.int 60)) aNil))) aNil)) (gSet 3) (sAsg (eOp2 dDiv (eVar 2) (eC (.int 1000003))) (gSet 2))) (sRet (eOp2 dAdd (eOp2 dAdd (eOp2 dMul (eIxS 0 (eOp2 dMod (eVar 1) (eLenS 0))) (eC (.int 31))) (eVar 1)) (eOp2 dMul (eVar 2) (eC (.int 101)))))))))
def F__law_cell_at : List Sl → Option (D × List Sl) := runO [] 2 4 B__law_cell_at
theorem w__law_cell_at (T : Txt K mg) (ff : Addr) : ∃ W : List Nat, (∀ i ∈ ([] : List Nat), i ∉ W) ∧ ∀ (cdv : Value) (A : Around) (outer : List Env) (s : Shared) (H : Hp) (E : XK), Room 0 (A.deeper (envOfC "_law_cell_at" (defScope s__law_cell_at) s.heap.objs.size ff cdv)) → QSs (cxOf CX0 P w K mg base ["script", "k", "spare", "again"] "_law_cell_at" (defScope s__law_cell_at) ff cdv A outer s H E).nox W (defBody s__law_cell_at) B__law_cell_at :=
  ⟨_, by decide, fun cdv A outer s H E hr => (qs_cons (qs_if (qt_cmp op_lt d_lt (qe_var 1) (qe_lenS 0 T.b_len)) (qs_one (qs_ret (qe_ixS 0 (qe_var 1)))) qs_nil) (qs_cons (qs_if (qt_eqNilS 0 hr) (qs_one (qs_ret qe_int)) qs_nil) (qs_cons (qs_set 2 sc__law_cell_at.nd (qe_ixS 0 (qe_mod (qe_var 1) (qe_lenS 0 T.b_len)))) (qs_cons (qs_for (qi_range1 T.b_range (qa_cons (qe_callB (call_min2 rfl) d_min T.b_min (qa_cons (qe_div (qe_var 1) (qe_lenS 0 T.b_len)) (qa_cons qe_int qa_nil))) qa_nil)) (qg_name 3 sc__law_cell_at.nd) (qs_one (qs_set 2 sc__law_cell_at.nd (qe_div (qe_var 2) qe_int)))) (qs_one (qs_ret (qe_add (qe_add (qe_mul (qe_ixS 0 (qe_mod (qe_var 1) (qe_lenS 0 T.b_len))) qe_int) (qe_var 1)) (qe_mul (qe_var 2) qe_int))))))))⟩
theorem ok__law_cell_at (T : Txt K mg) (X__law_cell_at : Def K mg "_law_cell_at" "_law_cell_at" s__law_cell_at ["script", "k"]) : Has P w K mg base "_law_cell_at" 1 ["script", "k"] (spO K F__law_cell_at 2) := by
  obtain ⟨ff, fd, FF, gg, bb⟩ := X__law_cell_at
  obtain ⟨W, hW, hw⟩ := w__law_cell_at T ff
  have o : FnOk P w K mg base CX0 1 ff fd ["script", "k"] (spO K (runO [] 2 4 B__law_cell_at) 2) := fnO (k := 0) FF sc__law_cell_at hw [] hW
  exact ⟨ff, fd, o, gg, FF.kp, bb⟩
abbrev s__law_mixed : Stmt := topS 51
theorem sc__law_mixed : FnScope ["script", "k", "bound", "spun"] ["script", "k", "bound"] (defScope s__law_mixed) := ⟨rfl, rfl, rfl, by decide +kernel, rfl, by decide +kernel, by decide +kernel⟩
def B__law_mixed : MS := (sSeq (sAsg (eOp2 dMod (eOp2 dAdd (eOp2 dAdd (eOp2 dMul (eAppO F__law_cell_at (yVar 0 (yDat (eVar 1) yNil))) (eC (.int 1103515245))) (eOp2 dMul (eC (.int 7919)) (eVar 1))) (eC (.int 12345))) (eC (.int 2147483647))) (gSet 3)) (sRet (eOp2 dMod (eOp2 dMod (eOp2 dMod (eOp2 dPow (eVar 3) (eC (.int 5))) (eC (.int 2147483647))) (eC (.int 999983))) (eVar 2))))
def F__law_mixed : List Sl → Option (D × List Sl) := runO [] 3 4 B__law_mixed
theorem w__law_mixed (T : Txt K mg) (ff : Addr) {f__law_cell_at : Addr} {fd__law_cell_at : FuncData} (O__law_cell_at : FnOk P w K mg base CX0 1 f__law_cell_at fd__law_cell_at ["script", "k"] (spO K F__law_cell_at 2)) (g__law_cell_at : mg "_law_cell_at" = some (.ref f__law_cell_at)) (k__law_cell_at : PySem.W.keepIn K (.ref f__law_cell_at) = true) (b__law_cell_at : Binds K fd__law_cell_at ["script", "k"] []) : ∃ W : List Nat, (∀ i ∈ ([] : List Nat), i ∉ W) ∧ ∀ (cdv : Value) (A : Around) (outer : List Env) (s : Shared) (H : Hp) (E : XK), Room 1 (A.deeper (envOfC "_law_mixed" (defScope s__law_mixed) s.heap.objs.size ff cdv)) → QSs (cxOf CX0 P w K mg base ["script", "k", "bound", "spun"] "_law_mixed" (defScope s__law_mixed) ff cdv A outer s H E).nox W (defBody s__law_mixed) B__law_mixed :=
  ⟨_, by decide, fun cdv A outer s H E hr => (qs_cons (qs_set 3 sc__law_mixed.nd (qe_mod (qe_add (qe_add (qe_mul (qe_callO O__law_cell_at (hr.mono (by decide)) g__law_cell_at k__law_cell_at b__law_cell_at (qy_var 0 (qy_dat (qe_var 1) qy_nil)) (hF := runO_ok)) qe_int) (qe_mul qe_int (qe_var 1))) qe_int) qe_int)) (qs_one (qs_ret (qe_mod (qe_mod (qe_mod (qe_pow (qe_var 3) qe_int) qe_int) qe_int) (qe_var 2)))))⟩
theorem ok__law_mixed (T : Txt K mg) (X__law_mixed : Def K mg "_law_mixed" "_law_mixed" s__law_mixed ["script", "k", "bound"]) (H__law_cell_at : Has P w K mg base "_law_cell_at" 1 ["script", "k"] (spO K F__law_cell_at 2)) : Has P w K mg base "_law_mixed" 2 ["script", "k", "bound"] (spO K F__law_mixed 3) := by
  obtain ⟨f__law_cell_at, fd__law_cell_at, O__law_cell_at, g__law_cell_at, k__law_cell_at, b__law_cell_at⟩ := H__law_cell_at
  obtain ⟨ff, fd, FF, gg, bb⟩ := X__law_mixed
  obtain ⟨W, hW, hw⟩ := w__law_mixed T ff O__law_cell_at g__law_cell_at k__law_cell_at b__law_cell_at
  have o : FnOk P w K mg base CX0 2 ff fd ["script", "k", "bound"] (spO K (runO [] 3 4 B__law_mixed) 3) := fnO (k := 1) FF sc__law_mixed hw [] hW
  exact ⟨ff, fd, o, gg, FF.kp, bb⟩
abbrev s__law_draw : Stmt := topS 52
theorem sc__law_draw : FnScope ["script", "town", "bound"] ["script", "town", "bound"] (defScope s__law_draw) := ⟨rfl, rfl, rfl, by decide +kernel, rfl, by decide +kernel, by decide +kernel⟩
def B__law_draw : MS := (sSeq (sDrop (eAppend 1 (eC (.int 0)))) (sRet (eAppO F__law_mixed (yVar 0 (yDat (eLenO 1) (yDat (eVar 2) yNil))))))
def F__law_draw : List Sl → Option (D × List Sl) := runO [1] 3 3 B__law_draw
theorem w__law_draw (T : Txt K mg) (ff : Addr) {f__law_mixed : Addr} {fd__law_mixed : FuncData} (O__law_mixed : FnOk P w K mg base CX0 2 f__law_mixed fd__law_mixed ["script", "k", "bound"] (spO K F__law_mixed 3)) (g__law_mixed : mg "_law_mixed" = some (.ref f__law_mixed)) (k__law_mixed : PySem.W.keepIn K (.ref f__law_mixed) = true) (b__law_mixed : Binds K fd__law_mixed ["script", "k", "bound"] []) : ∃ W : List Nat, (∀ i ∈ ([1] : List Nat), i ∉ W) ∧ ∀ (cdv : Value) (A : Around) (outer : List Env) (s : Shared) (H : Hp) (E : XK), Room 2 (A.deeper (envOfC "_law_draw" (defScope s__law_draw) s.heap.objs.size ff cdv)) → QSs (cxOf CX0 P w K mg base ["script", "town", "bound"] "_law_draw" (defScope s__law_draw) ff cdv A outer s H E).nox W (defBody s__law_draw) B__law_draw :=
  ⟨_, by decide, fun cdv A outer s H E hr => (qs_cons (qs_expr (qe_append 1 qe_int)) (qs_one (qs_ret (qe_callO O__law_mixed (hr.mono (by decide)) g__law_mixed k__law_mixed b__law_mixed (qy_var 0 (qy_dat (qe_lenO 1 T.b_len) (qy_dat (qe_var 2) qy_nil))) (hF := runO_ok)))))⟩
theorem ok__law_draw (T : Txt K mg) (X__law_draw : Def K mg "_law_draw" "_law_draw" s__law_draw ["script", "town", "bound"]) (H__law_mixed : Has P w K mg base "_law_mixed" 2 ["script", "k", "bound"] (spO K F__law_mixed 3)) : Has P w K mg base "_law_draw" 3 ["script", "town", "bound"] (spO K F__law_draw 3) := by
  obtain ⟨f__law_mixed, fd__law_mixed, O__law_mixed, g__law_mixed, k__law_mixed, b__law_mixed⟩ := H__law_mixed
  obtain ⟨ff, fd, FF, gg, bb⟩ := X__law_draw
  obtain ⟨W, hW, hw⟩ := w__law_draw T ff O__law_mixed g__law_mixed k__law_mixed b__law_mixed
  have o : FnOk P w K mg base CX0 3 ff fd ["script", "town", "bound"] (spO K (runO [1] 3 3 B__law_draw) 3) := fnO (k := 2) FF sc__law_draw hw [1] hW
  exact ⟨ff, fd, o, gg, FF.kp, bb⟩
abbrev s__law_less : Stmt := topS 53
theorem sc__law_less : FnScope ["one", "other"] ["one", "other"] (defScope s__law_less) := ⟨rfl, rfl, rfl, by decide +kernel, rfl, by decide +kernel, by decide +kernel⟩
def B__law_less : MS := (sRet (eOp2 dLt (eOp2 dMul (eOp2 dIx (eVar 0) (eC (.int 0))) (eOp2 dIx (eVar 1) (eC (.int 1)))) (eOp2 dMul (eOp2 dIx (eVar 1) (eC (.int 0))) (eOp2 dIx (eVar 0) (eC (.int 1))))))
def F__law_less : List D → Option D := runF 2 2 B__law_less
theorem w__law_less (T : Txt K mg) (ff : Addr) : ∃ W : List Nat, ∀ (cdv : Value) (A : Around) (outer : List Env) (s : Shared) (H : Hp) (E : XK), Room 0 (A.deeper (envOfC "_law_less" (defScope s__law_less) s.heap.objs.size ff cdv)) → QSs (cxOf CX0 P w K mg base ["one", "other"] "_law_less" (defScope s__law_less) ff cdv A outer s H E).nox W (defBody s__law_less) B__law_less :=
  ⟨_, fun cdv A outer s H E hr => (qs_one (qs_ret (qe_cmp op_lt d_lt (qe_mul (qe_ix (qe_var 0) qe_int) (qe_ix (qe_var 1) qe_int)) (qe_mul (qe_ix (qe_var 1) qe_int) (qe_ix (qe_var 0) qe_int)))))⟩
theorem ok__law_less (T : Txt K mg) (X__law_less : Def K mg "_law_less" "_law_less" s__law_less ["one", "other"]) : Has P w K mg base "_law_less" 1 ["one", "other"] (spP K F__law_less 2) := by
  obtain ⟨ff, fd, FF, gg, bb⟩ := X__law_less
  obtain ⟨W, hw⟩ := w__law_less T ff
  have o : FnOk P w K mg base CX0 1 ff fd ["one", "other"] (spP K (runF 2 2 B__law_less) 2) := fnP (k := 0) FF sc__law_less hw
  exact ⟨ff, fd, o, gg, FF.kp, bb⟩
abbrev s__law_pick : Stmt := topS 54
theorem sc__law_pick : FnScope ["script", "town", "some"] ["script", "town", "some"] (defScope s__law_pick) := ⟨rfl, rfl, rfl, by decide +kernel, rfl, by decide +kernel, by decide +kernel⟩
def B__law_pick : MS := (sRet (eOp2 dIx (eVar 2) (eAppO F__law_draw (yVar 0 (yVar 1 (yDat (eApp dLen (aCons (eVar 2) aNil)) yNil))))))
def F__law_pick : List Sl → Option (D × List Sl) := runO [1] 3 3 B__law_pick
theorem w__law_pick (T : Txt K mg) (ff : Addr) {f__law_draw : Addr} {fd__law_draw : FuncData} (O__law_draw : FnOk P w K mg base CX0 3 f__law_draw fd__law_draw ["script", "town", "bound"] (spO K F__law_draw 3)) (g__law_draw : mg "_law_draw" = some (.ref f__law_draw)) (k__law_draw : PySem.W.keepIn K (.ref f__law_draw) = true) (b__law_draw : Binds K fd__law_draw ["script", "town", "bound"] []) : ∃ W : List Nat, (∀ i ∈ ([1] : List Nat), i ∉ W) ∧ ∀ (cdv : Value) (A : Around) (outer : List Env) (s : Shared) (H : Hp) (E : XK), Room 3 (A.deeper (envOfC "_law_pick" (defScope s__law_pick) s.heap.objs.size ff cdv)) → QSs (cxOf CX0 P w K mg base ["script", "town", "some"] "_law_pick" (defScope s__law_pick) ff cdv A outer s H E).nox W (defBody s__law_pick) B__law_pick :=
  ⟨_, by decide, fun cdv A outer s H E hr => (qs_one (qs_ret (qe_ix (qe_var 2) (qe_callO O__law_draw (hr.mono (by decide)) g__law_draw k__law_draw b__law_draw (qy_var 0 (qy_var 1 (qy_dat (qe_callB call_len_seq d_len T.b_len (qa_cons (qe_var 2) qa_nil)) qy_nil))) (hF := runO_ok)))))⟩
theorem ok__law_pick (T : Txt K mg) (X__law_pick : Def K mg "_law_pick" "_law_pick" s__law_pick ["script", "town", "some"]) (H__law_draw : Has P w K mg base "_law_draw" 3 ["script", "town", "bound"] (spO K F__law_draw 3)) : Has P w K mg base "_law_pick" 4 ["script", "town", "some"] (spO K F__law_pick 3) := by
  obtain ⟨f__law_draw, fd__law_draw, O__law_draw, g__law_draw, k__law_draw, b__law_draw⟩ := H__law_draw
  obtain ⟨ff, fd, FF, gg, bb⟩ := X__law_pick
  obtain ⟨W, hW, hw⟩ := w__law_pick T ff O__law_draw g__law_draw k__law_draw b__law_draw
  have o : FnOk P w K mg base CX0 4 ff fd ["script", "town", "some"] (spO K (runO [1] 3 3 B__law_pick) 3) := fnO (k := 3) FF sc__law_pick hw [1] hW
  exact ⟨ff, fd, o, gg, FF.kp, bb⟩
abbrev s__law_both : Stmt := topS 55
theorem sc__law_both : FnScope ["one", "other"] ["one", "other"] (defScope s__law_both) := ⟨rfl, rfl, rfl, by decide +kernel, rfl, by decide +kernel, by decide +kernel⟩
def B__law_both : MS := (sSeq (sWhile fu__law_both (cV (eOp2 dNe (eVar 1) (eC (.int 0)))) (sPar2 0 1 (xDat (eVar 1) (xDat (eOp2 dSub (eVar 0) (eOp2 dMul (eOp2 dDiv (eVar 0) (eVar 1)) (eVar 1))) xNil)))) (sRet (eVar 0)))
def F__law_both : List D → Option D := runF 2 2 B__law_both
theorem w__law_both (T : Txt K mg) (ff : Addr) : ∃ W : List Nat, ∀ (cdv : Value) (A : Around) (outer : List Env) (s : Shared) (H : Hp) (E : XK), Room 0 (A.deeper (envOfC "_law_both" (defScope s__law_both) s.heap.objs.size ff cdv)) → QSs (cxOf CX0 P w K mg base ["one", "other"] "_law_both" (defScope s__law_both) ff cdv A outer s H E).nox W (defBody s__law_both) B__law_both :=
  ⟨_, fun cdv A outer s H E hr => (qs_cons (qs_while fu__law_both (qt_cmp (op_neD hr.units) d_ne (qe_var 1) qe_int) (qs_one (qs_par (i := 0) (j := 1) sc__law_both.nd (qx_dat (qe_var 1) (qx_dat (qe_sub (qe_var 0) (qe_mul (qe_div (qe_var 0) (qe_var 1)) (qe_var 1))) qx_nil))))) (qs_one (qs_ret (qe_var 0))))⟩
theorem ok__law_both (T : Txt K mg) (X__law_both : Def K mg "_law_both" "_law_both" s__law_both ["one", "other"]) : Has P w K mg base "_law_both" 1 ["one", "other"] (spP K F__law_both 2) := by
  obtain ⟨ff, fd, FF, gg, bb⟩ := X__law_both
  obtain ⟨W, hw⟩ := w__law_both T ff
  have o : FnOk P w K mg base CX0 1 ff fd ["one", "other"] (spP K (runF 2 2 B__law_both) 2) := fnP (k := 0) FF sc__law_both hw
  exact ⟨ff, fd, o, gg, FF.kp, bb⟩
abbrev s__law_part : Stmt := topS 56
theorem sc__law_part : FnScope ["top", "bottom", "by"] ["top", "bottom"] (defScope s__law_part) := ⟨rfl, rfl, rfl, by decide +kernel, rfl, by decide +kernel, by decide +kernel⟩
def B__law_part : MS := (sSeq (sIf (cV (eOp2 dLt (eVar 1) (eC (.int 0)))) (sPar2 0 1 (xDat (eOp2 dSub (eC (.int 0)) (eVar 0)) (xDat (eOp2 dSub (eC (.int 0)) (eVar 1)) xNil))) sNil) (sSeq (sAsg (eApp F__law_both (aCons (eApp dAbs (aCons (eVar 0) aNil)) (aCons (eVar 1) aNil))) (gSet 2)) (sRet (eApp mkTup (aCons (eOp2 dDiv (eVar 0) (eVar 2)) (aCons (eOp2 dDiv (eVar 1) (eVar 2)) aNil))))))
def F__law_part : List D → Option D := runF 2 3 B__law_part
theorem w__law_part (T : Txt K mg) (ff : Addr) {f__law_both : Addr} {fd__law_both : FuncData} (O__law_both : FnOk P w K mg base CX0 1 f__law_both fd__law_both ["one", "other"] (spP K F__law_both 2)) (g__law_both : mg "_law_both" = some (.ref f__law_both)) (k__law_both : PySem.W.keepIn K (.ref f__law_both) = true) (b__law_both : Binds K fd__law_both ["one", "other"] []) : ∃ W : List Nat, ∀ (cdv : Value) (A : Around) (outer : List Env) (s : Shared) (H : Hp) (E : XK), Room 1 (A.deeper (envOfC "_law_part" (defScope s__law_part) s.heap.objs.size ff cdv)) → QSs (cxOf CX0 P w K mg base ["top", "bottom", "by"] "_law_part" (defScope s__law_part) ff cdv A outer s H E).nox W (defBody s__law_part) B__law_part :=
  ⟨_, fun cdv A outer s H E hr => (qs_cons (qs_if (qt_cmp op_lt d_lt (qe_var 1) qe_int) (qs_one (qs_par (i := 0) (j := 1) sc__law_part.nd (qx_dat (qe_sub qe_int (qe_var 0)) (qx_dat (qe_sub qe_int (qe_var 1)) qx_nil)))) qs_nil) (qs_cons (qs_set 2 sc__law_part.nd (qe_call O__law_both (hr.mono (by decide)) g__law_both k__law_both b__law_both (qa_cons (qe_callB call_abs d_abs T.b_abs (qa_cons (qe_var 0) qa_nil)) (qa_cons (qe_var 1) qa_nil)))) (qs_one (qs_ret (qe_tup (qa_cons (qe_div (qe_var 0) (qe_var 2)) (qa_cons (qe_div (qe_var 1) (qe_var 2)) qa_nil)))))))⟩
theorem ok__law_part (T : Txt K mg) (X__law_part : Def K mg "_law_part" "_law_part" s__law_part ["top", "bottom"]) (H__law_both : Has P w K mg base "_law_both" 1 ["one", "other"] (spP K F__law_both 2)) : Has P w K mg base "_law_part" 2 ["top", "bottom"] (spP K F__law_part 2) := by
  obtain ⟨f__law_both, fd__law_both, O__law_both, g__law_both, k__law_both, b__law_both⟩ := H__law_both
  obtain ⟨ff, fd, FF, gg, bb⟩ := X__law_part
  obtain ⟨W, hw⟩ := w__law_part T ff O__law_both g__law_both k__law_both b__law_both
  have o : FnOk P w K mg base CX0 2 ff fd ["top", "bottom"] (spP K (runF 2 3 B__law_part) 2) := fnP (k := 1) FF sc__law_part hw
  exact ⟨ff, fd, o, gg, FF.kp, bb⟩
abbrev s__law_some_proportion : Stmt := topS 57
theorem sc__law_some_proportion : FnScope ["script", "town"] ["script", "town"] (defScope s__law_some_proportion) := ⟨rfl, rfl, rfl, by decide +kernel, rfl, by decide +kernel, by decide +kernel⟩
def B__law_some_proportion : MS := (sRet (eApp F__law_part (aCons (eOp2 dAdd (eC (.int 1)) (eAppO F__law_draw (yVar 0 (yVar 1 (yDat (eAppO F__law_pick (yVar 0 (yVar 1 (yDat (eApp mkLst (aCons (eC (.int 1)) (aCons (eC (.int 4)) (aCons (eC (.int 30)) aNil)))) yNil)))) yNil))))) (aCons (eOp2 dAdd (eC (.int 1)) (eAppO F__law_draw (yVar 0 (yVar 1 (yDat (eC (.int 4)) yNil))))) aNil))))
def F__law_some_proportion : List Sl → Option (D × List Sl) := runO [1] 2 2 B__law_some_proportion
theorem w__law_some_proportion (T : Txt K mg) (ff : Addr) {f__law_draw : Addr} {fd__law_draw : FuncData} (O__law_draw : FnOk P w K mg base CX0 3 f__law_draw fd__law_draw ["script", "town", "bound"] (spO K F__law_draw 3)) (g__law_draw : mg "_law_draw" = some (.ref f__law_draw)) (k__law_draw : PySem.W.keepIn K (.ref f__law_draw) = true) (b__law_draw : Binds K fd__law_draw ["script", "town", "bound"] []) {f__law_part : Addr} {fd__law_part : FuncData} (O__law_part : FnOk P w K mg base CX0 2 f__law_part fd__law_part ["top", "bottom"] (spP K F__law_part 2)) (g__law_part : mg "_law_part" = some (.ref f__law_part)) (k__law_part : PySem.W.keepIn K (.ref f__law_part) = true) (b__law_part : Binds K fd__law_part ["top", "bottom"] []) {f__law_pick : Addr} {fd__law_pick : FuncData} (O__law_pick : FnOk P w K mg base CX0 4 f__law_pick fd__law_pick ["script", "town", "some"] (spO K F__law_pick 3)) (g__law_pick : mg "_law_pick" = some (.ref f__law_pick)) (k__law_pick : PySem.W.keepIn K (.ref f__law_pick) = true) (b__law_pick : Binds K fd__law_pick ["script", "town", "some"] []) : ∃ W : List Nat, (∀ i ∈ ([1] : List Nat), i ∉ W) ∧ ∀ (cdv : Value) (A : Around) (outer : List Env) (s : Shared) (H : Hp) (E : XK), Room 4 (A.deeper (envOfC "_law_some_proportion" (defScope s__law_some_proportion) s.heap.objs.size ff cdv)) → QSs (cxOf CX0 P w K mg base ["script", "town"] "_law_some_proportion" (defScope s__law_some_proportion) ff cdv A outer s H E).nox W (defBody s__law_some_proportion) B__law_some_proportion :=
  ⟨_, by decide, fun cdv A outer s H E hr => (qs_one (qs_ret (qe_call O__law_part (hr.mono (by decide)) g__law_part k__law_part b__law_part (qa_cons (qe_add qe_int (qe_callO O__law_draw (hr.mono (by decide)) g__law_draw k__law_draw b__law_draw (qy_var 0 (qy_var 1 (qy_dat (qe_callO O__law_pick (hr.mono (by decide)) g__law_pick k__law_pick b__law_pick (qy_var 0 (qy_var 1 (qy_dat (qe_lst (qa_cons qe_int (qa_cons qe_int (qa_cons qe_int qa_nil)))) qy_nil))) (hF := runO_ok)) qy_nil))) (hF := runO_ok))) (qa_cons (qe_add qe_int (qe_callO O__law_draw (hr.mono (by decide)) g__law_draw k__law_draw b__law_draw (qy_var 0 (qy_var 1 (qy_dat qe_int qy_nil))) (hF := runO_ok))) qa_nil)))))⟩
theorem ok__law_some_proportion (T : Txt K mg) (X__law_some_proportion : Def K mg "_law_some_proportion" "_law_some_proportion" s__law_some_proportion ["script", "town"]) (H__law_draw : Has P w K mg base "_law_draw" 3 ["script", "town", "bound"] (spO K F__law_draw 3)) (H__law_part : Has P w K mg base "_law_part" 2 ["top", "bottom"] (spP K F__law_part 2)) (H__law_pick : Has P w K mg base "_law_pick" 4 ["script", "town", "some"] (spO K F__law_pick 3)) : Has P w K mg base "_law_some_proportion" 5 ["script", "town"] (spO K F__law_some_proportion 2) := by
  obtain ⟨f__law_draw, fd__law_draw, O__law_draw, g__law_draw, k__law_draw, b__law_draw⟩ := H__law_draw
  obtain ⟨f__law_part, fd__law_part, O__law_part, g__law_part, k__law_part, b__law_part⟩ := H__law_part
  obtain ⟨f__law_pick, fd__law_pick, O__law_pick, g__law_pick, k__law_pick, b__law_pick⟩ := H__law_pick
  obtain ⟨ff, fd, FF, gg, bb⟩ := X__law_some_proportion
  obtain ⟨W, hW, hw⟩ := w__law_some_proportion T ff O__law_draw g__law_draw k__law_draw b__law_draw O__law_part g__law_part k__law_part b__law_part O__law_pick g__law_pick k__law_pick b__law_pick
  have o : FnOk P w K mg base CX0 5 ff fd ["script", "town"] (spO K (runO [1] 2 2 B__law_some_proportion) 2) := fnO (k := 4) FF sc__law_some_proportion hw [1] hW
  exact ⟨ff, fd, o, gg, FF.kp, bb⟩
abbrev s__law_order_of : Stmt := topS 58
theorem sc__law_order_of : FnScope ["script", "town", "many", "left", "made"] ["script", "town", "many"] (defScope s__law_order_of) := ⟨rfl, rfl, rfl, by decide +kernel, rfl, by decide +kernel, by decide +kernel⟩
def B__law_order_of : MS := (sSeq (sPar2 3 4 (xOwn (oListRange (aCons (eVar 2) aNil)) (xOwn (oLst aNil) xNil))) (sSeq (sWhile fu__law_order_of (cV (eNeNilO 3)) (sDrop (eAppend 4 (ePopAt 3 (eAppO F__law_draw (yVar 0 (yVar 1 (yDat (eLenO 3) yNil)))))))) (sRet (eApp dTuple (aCons (eVar 4) aNil)))))
def F__law_order_of : List Sl → Option (D × List Sl) := runO [1] 3 5 B__law_order_of
theorem w__law_order_of (T : Txt K mg) (ff : Addr) {f__law_draw : Addr} {fd__law_draw : FuncData} (O__law_draw : FnOk P w K mg base CX0 3 f__law_draw fd__law_draw ["script", "town", "bound"] (spO K F__law_draw 3)) (g__law_draw : mg "_law_draw" = some (.ref f__law_draw)) (k__law_draw : PySem.W.keepIn K (.ref f__law_draw) = true) (b__law_draw : Binds K fd__law_draw ["script", "town", "bound"] []) : ∃ W : List Nat, (∀ i ∈ ([1] : List Nat), i ∉ W) ∧ ∀ (cdv : Value) (A : Around) (outer : List Env) (s : Shared) (H : Hp) (E : XK), Room 3 (A.deeper (envOfC "_law_order_of" (defScope s__law_order_of) s.heap.objs.size ff cdv)) → QSs (cxOf CX0 P w K mg base ["script", "town", "many", "left", "made"] "_law_order_of" (defScope s__law_order_of) ff cdv A outer s H E).nox W (defBody s__law_order_of) B__law_order_of :=
  ⟨_, by decide, fun cdv A outer s H E hr => (qs_cons (qs_par (i := 3) (j := 4) sc__law_order_of.nd (qx_own (qo_listRange T.b_list (qrg_1 T.b_range (qe_var 2))) (qx_own (qo_lst qa_nil) qx_nil))) (qs_cons (qs_while fu__law_order_of (qt_neNilO 3 hr) (qs_one (qs_expr (qe_append 4 (qe_popAt 3 (qe_callO O__law_draw (hr.mono (by decide)) g__law_draw k__law_draw b__law_draw (qy_var 0 (qy_var 1 (qy_dat (qe_lenO 3 T.b_len) qy_nil))) (hF := runO_ok))))))) (qs_one (qs_ret (qe_callTy call_tuple_of d_tuple T.b_tuple (qa_cons (qe_var 4) qa_nil))))))⟩
theorem ok__law_order_of (T : Txt K mg) (X__law_order_of : Def K mg "_law_order_of" "_law_order_of" s__law_order_of ["script", "town", "many"]) (H__law_draw : Has P w K mg base "_law_draw" 3 ["script", "town", "bound"] (spO K F__law_draw 3)) : Has P w K mg base "_law_order_of" 4 ["script", "town", "many"] (spO K F__law_order_of 3) := by
  obtain ⟨f__law_draw, fd__law_draw, O__law_draw, g__law_draw, k__law_draw, b__law_draw⟩ := H__law_draw
  obtain ⟨ff, fd, FF, gg, bb⟩ := X__law_order_of
  obtain ⟨W, hW, hw⟩ := w__law_order_of T ff O__law_draw g__law_draw k__law_draw b__law_draw
  have o : FnOk P w K mg base CX0 4 ff fd ["script", "town", "many"] (spO K (runO [1] 3 5 B__law_order_of) 3) := fnO (k := 3) FF sc__law_order_of hw [1] hW
  exact ⟨ff, fd, o, gg, FF.kp, bb⟩
abbrev s__law_some_plan : Stmt := topS 59
theorem sc__law_some_plan : FnScope ["script", "town", "beams_most", "more_most", "order", "at", "again", "beams", "rooms", "one", "other"] ["script", "town", "beams_most", "more_most"] (defScope s__law_some_plan) := ⟨rfl, rfl, rfl, by decide +kernel, rfl, by decide +kernel, by decide +kernel⟩
def B__law_some_plan : MS := (sSeq (sPar2 7 8 (xDat (eOp2 dAdd (eC (.int 2)) (eAppO F__law_draw (yVar 0 (yVar 1 (yDat (eOp2 dSub (eVar 2) (eC (.int 1))) yNil))))) (xOwn (oLst aNil) xNil))) (sSeq (sAsg (eAppO F__law_order_of (yVar 0 (yVar 1 (yDat (eVar 7) yNil)))) (gSet 4)) (sSeq (sFor (iApp rng2 (aCons (eC (.int 1)) (aCons (eVar 7) aNil))) (gSet 5) (sSeq (sPar2 9 10 (xDat (eOp2 dIx (eVar 4) (eVar 5)) (xDat (eOp2 dIx (eVar 4) (eAppO F__law_draw (yVar 0 (yVar 1 (yDat (eVar 5) yNil))))) xNil))) (sDrop (eAppend 8 (eApp mkTup (aCons (eVar 9) (aCons (eVar 10) (aCons (eAppO F__law_some_proportion (yVar 0 (yVar 1 yNil))) aNil)))))))) (sSeq (sFor (iApp rng1 (aCons (eAppO F__law_draw (yVar 0 (yVar 1 (yDat (eOp2 dAdd (eVar 3) (eC (.int 1))) yNil)))) aNil)) (gSet 6) (sSeq (sAsg (eAppO F__law_draw (yVar 0 (yVar 1 (yDat (eVar 7) yNil)))) (gSet 9)) (sSeq (sAsg (eOp2 dAdd (eOp2 dAdd (eVar 9) (eC (.int 1))) (eAppO F__law_draw (yVar 0 (yVar 1 (yDat (eOp2 dSub (eVar 7) (eC (.int 1))) yNil))))) (gSet 10)) (sDrop (eAppend 8 (eApp mkTup (aCons (eVar 9) (aCons (eIf (cV (eOp2 dGe (eVar 10) (eVar 7))) (eOp2 dSub (eVar 10) (eVar 7)) (eVar 10)) (aCons (eAppO F__law_some_proportion (yVar 0 (yVar 1 yNil))) aNil))))))))) (sRet (eApp mkTup (aCons (eVar 7) (aCons (eApp dTuple (aCons (eVar 8) aNil)) aNil))))))))
def F__law_some_plan : List Sl → Option (D × List Sl) := runO [1] 4 11 B__law_some_plan
theorem w__law_some_plan (T : Txt K mg) (ff : Addr) {f__law_draw : Addr} {fd__law_draw : FuncData} (O__law_draw : FnOk P w K mg base CX0 3 f__law_draw fd__law_draw ["script", "town", "bound"] (spO K F__law_draw 3)) (g__law_draw : mg "_law_draw" = some (.ref f__law_draw)) (k__law_draw : PySem.W.keepIn K (.ref f__law_draw) = true) (b__law_draw : Binds K fd__law_draw ["script", "town", "bound"] []) {f__law_order_of : Addr} {fd__law_order_of : FuncData} (O__law_order_of : FnOk P w K mg base CX0 4 f__law_order_of fd__law_order_of ["script", "town", "many"] (spO K F__law_order_of 3)) (g__law_order_of : mg "_law_order_of" = some (.ref f__law_order_of)) (k__law_order_of : PySem.W.keepIn K (.ref f__law_order_of) = true) (b__law_order_of : Binds K fd__law_order_of ["script", "town", "many"] []) {f__law_some_proportion : Addr} {fd__law_some_proportion : FuncData} (O__law_some_proportion : FnOk P w K mg base CX0 5 f__law_some_proportion fd__law_some_proportion ["script", "town"] (spO K F__law_some_proportion 2)) (g__law_some_proportion : mg "_law_some_proportion" = some (.ref f__law_some_proportion)) (k__law_some_proportion : PySem.W.keepIn K (.ref f__law_some_proportion) = true) (b__law_some_proportion : Binds K fd__law_some_proportion ["script", "town"] []) : ∃ W : List Nat, (∀ i ∈ ([1] : List Nat), i ∉ W) ∧ ∀ (cdv : Value) (A : Around) (outer : List Env) (s : Shared) (H : Hp) (E : XK), Room 5 (A.deeper (envOfC "_law_some_plan" (defScope s__law_some_plan) s.heap.objs.size ff cdv)) → QSs (cxOf CX0 P w K mg base ["script", "town", "beams_most", "more_most", "order", "at", "again", "beams", "rooms", "one", "other"] "_law_some_plan" (defScope s__law_some_plan) ff cdv A outer s H E).nox W (defBody s__law_some_plan) B__law_some_plan :=
  ⟨_, by decide, fun cdv A outer s H E hr => (qs_cons (qs_par (i := 7) (j := 8) sc__law_some_plan.nd (qx_dat (qe_add qe_int (qe_callO O__law_draw (hr.mono (by decide)) g__law_draw k__law_draw b__law_draw (qy_var 0 (qy_var 1 (qy_dat (qe_sub (qe_var 2) qe_int) qy_nil))) (hF := runO_ok))) (qx_own (qo_lst qa_nil) qx_nil))) (qs_cons (qs_set 4 sc__law_some_plan.nd (qe_callO O__law_order_of (hr.mono (by decide)) g__law_order_of k__law_order_of b__law_order_of (qy_var 0 (qy_var 1 (qy_dat (qe_var 7) qy_nil))) (hF := runO_ok))) (qs_cons (qs_for (qi_range2 T.b_range (qa_cons qe_int (qa_cons (qe_var 7) qa_nil))) (qg_name 5 sc__law_some_plan.nd) (qs_cons (qs_par (i := 9) (j := 10) sc__law_some_plan.nd (qx_dat (qe_ix (qe_var 4) (qe_var 5)) (qx_dat (qe_ix (qe_var 4) (qe_callO O__law_draw (hr.mono (by decide)) g__law_draw k__law_draw b__law_draw (qy_var 0 (qy_var 1 (qy_dat (qe_var 5) qy_nil))) (hF := runO_ok))) qx_nil))) (qs_one (qs_expr (qe_append 8 (qe_tup (qa_cons (qe_var 9) (qa_cons (qe_var 10) (qa_cons (qe_callO O__law_some_proportion (hr.mono (by decide)) g__law_some_proportion k__law_some_proportion b__law_some_proportion (qy_var 0 (qy_var 1 qy_nil)) (hF := runO_ok)) qa_nil))))))))) (qs_cons (qs_for (qi_range1 T.b_range (qa_cons (qe_callO O__law_draw (hr.mono (by decide)) g__law_draw k__law_draw b__law_draw (qy_var 0 (qy_var 1 (qy_dat (qe_add (qe_var 3) qe_int) qy_nil))) (hF := runO_ok)) qa_nil)) (qg_name 6 sc__law_some_plan.nd) (qs_cons (qs_set 9 sc__law_some_plan.nd (qe_callO O__law_draw (hr.mono (by decide)) g__law_draw k__law_draw b__law_draw (qy_var 0 (qy_var 1 (qy_dat (qe_var 7) qy_nil))) (hF := runO_ok))) (qs_cons (qs_set 10 sc__law_some_plan.nd (qe_add (qe_add (qe_var 9) qe_int) (qe_callO O__law_draw (hr.mono (by decide)) g__law_draw k__law_draw b__law_draw (qy_var 0 (qy_var 1 (qy_dat (qe_sub (qe_var 7) qe_int) qy_nil))) (hF := runO_ok)))) (qs_one (qs_expr (qe_append 8 (qe_tup (qa_cons (qe_var 9) (qa_cons (qe_if (qt_cmp op_ge d_ge (qe_var 10) (qe_var 7)) (qe_sub (qe_var 10) (qe_var 7)) (qe_var 10)) (qa_cons (qe_callO O__law_some_proportion (hr.mono (by decide)) g__law_some_proportion k__law_some_proportion b__law_some_proportion (qy_var 0 (qy_var 1 qy_nil)) (hF := runO_ok)) qa_nil)))))))))) (qs_one (qs_ret (qe_tup (qa_cons (qe_var 7) (qa_cons (qe_callTy call_tuple_of d_tuple T.b_tuple (qa_cons (qe_var 8) qa_nil)) qa_nil)))))))))⟩
theorem ok__law_some_plan (T : Txt K mg) (X__law_some_plan : Def K mg "_law_some_plan" "_law_some_plan" s__law_some_plan ["script", "town", "beams_most", "more_most"]) (H__law_draw : Has P w K mg base "_law_draw" 3 ["script", "town", "bound"] (spO K F__law_draw 3)) (H__law_order_of : Has P w K mg base "_law_order_of" 4 ["script", "town", "many"] (spO K F__law_order_of 3)) (H__law_some_proportion : Has P w K mg base "_law_some_proportion" 5 ["script", "town"] (spO K F__law_some_proportion 2)) : Has P w K mg base "_law_some_plan" 6 ["script", "town", "beams_most", "more_most"] (spO K F__law_some_plan 4) := by
  obtain ⟨f__law_draw, fd__law_draw, O__law_draw, g__law_draw, k__law_draw, b__law_draw⟩ := H__law_draw
  obtain ⟨f__law_order_of, fd__law_order_of, O__law_order_of, g__law_order_of, k__law_order_of, b__law_order_of⟩ := H__law_order_of
  obtain ⟨f__law_some_proportion, fd__law_some_proportion, O__law_some_proportion, g__law_some_proportion, k__law_some_proportion, b__law_some_proportion⟩ := H__law_some_proportion
  obtain ⟨ff, fd, FF, gg, bb⟩ := X__law_some_plan
  obtain ⟨W, hW, hw⟩ := w__law_some_plan T ff O__law_draw g__law_draw k__law_draw b__law_draw O__law_order_of g__law_order_of k__law_order_of b__law_order_of O__law_some_proportion g__law_some_proportion k__law_some_proportion b__law_some_proportion
  have o : FnOk P w K mg base CX0 6 ff fd ["script", "town", "beams_most", "more_most"] (spO K (runO [1] 4 11 B__law_some_plan) 4) := fnO (k := 5) FF sc__law_some_plan hw [1] hW
  exact ⟨ff, fd, o, gg, FF.kp, bb⟩
abbrev s__law_which : Stmt := topS 60
theorem sc__law_which : FnScope ["e", "own"] ["e"] (defScope s__law_which) := ⟨rfl, rfl, rfl, by decide +kernel, rfl, by decide +kernel, by decide +kernel⟩
def B__law_which (t : Str → Bool) (a : Addr) : MS := (sSeq (sOwn 1 (oLst (aCons (eIsE 0 a (t "NoPlan")) (aCons (eIsE 0 a (t "NoLevels")) (aCons (eIsE 0 a (t "NoWidths")) (aCons (eIsE 0 a (t "NoBeam")) aNil)))))) (sSeq (sDrop (eExtend 1 (eApp mkLst (aCons (eIsE 0 a (t "NoRoom")) (aCons (eIsE 0 a (t "NoProportion")) (aCons (eIsE 0 a (t "Parted")) (aCons (eIsE 0 a (t "NoNest")) aNil))))))) (sSeq (sDrop (eExtend 1 (eApp mkLst (aCons (eIsE 0 a (t "NoText")) (aCons (eIsE 0 a (t "Nothing")) aNil))))) (sSeq (sIf (cOr (cV (eOp2 dNe (eCountT 1 (eC (.bool true))) (eC (.int 1)))) (cNot (cV (eIsE 0 a true)))) (sRet (eApp mkTup (aCons (eC (.str "refused")) (aCons (eNeg (eC (.int 1))) aNil)))) sNil) (sRet (eApp mkTup (aCons (eC (.str "refused")) (aCons (eIndexT 1 (eC (.bool true))) aNil))))))))
theorem w__law_which (T : Txt K mg) (ff C : Addr) (t : Str → Bool) (EC : ExcC K C) (qV : PySem.W.kitOne K (.ref C) (.type "ValueError") = some true) {D_NoPlan : Addr} (m_NoPlan : mg "NoPlan" = some (.ref D_NoPlan)) (q_NoPlan : PySem.W.kitOne K (.ref C) (.ref D_NoPlan) = some (t "NoPlan")) {D_NoLevels : Addr} (m_NoLevels : mg "NoLevels" = some (.ref D_NoLevels)) (q_NoLevels : PySem.W.kitOne K (.ref C) (.ref D_NoLevels) = some (t "NoLevels")) {D_NoWidths : Addr} (m_NoWidths : mg "NoWidths" = some (.ref D_NoWidths)) (q_NoWidths : PySem.W.kitOne K (.ref C) (.ref D_NoWidths) = some (t "NoWidths")) {D_NoBeam : Addr} (m_NoBeam : mg "NoBeam" = some (.ref D_NoBeam)) (q_NoBeam : PySem.W.kitOne K (.ref C) (.ref D_NoBeam) = some (t "NoBeam")) {D_NoRoom : Addr} (m_NoRoom : mg "NoRoom" = some (.ref D_NoRoom)) (q_NoRoom : PySem.W.kitOne K (.ref C) (.ref D_NoRoom) = some (t "NoRoom")) {D_NoProportion : Addr} (m_NoProportion : mg "NoProportion" = some (.ref D_NoProportion)) (q_NoProportion : PySem.W.kitOne K (.ref C) (.ref D_NoProportion) = some (t "NoProportion")) {D_Parted : Addr} (m_Parted : mg "Parted" = some (.ref D_Parted)) (q_Parted : PySem.W.kitOne K (.ref C) (.ref D_Parted) = some (t "Parted")) {D_NoNest : Addr} (m_NoNest : mg "NoNest" = some (.ref D_NoNest)) (q_NoNest : PySem.W.kitOne K (.ref C) (.ref D_NoNest) = some (t "NoNest")) {D_NoText : Addr} (m_NoText : mg "NoText" = some (.ref D_NoText)) (q_NoText : PySem.W.kitOne K (.ref C) (.ref D_NoText) = some (t "NoText")) {D_Nothing : Addr} (m_Nothing : mg "Nothing" = some (.ref D_Nothing)) (q_Nothing : PySem.W.kitOne K (.ref C) (.ref D_Nothing) = some (t "Nothing")) : ∃ W : List Nat, ∀ (cdv : Value) (A : Around) (outer : List Env) (s : Shared) (H : Hp) (E : XK) (a : Addr) (oe : Obj), L2H.RoomH 0 (A.deeper (envOfC "_law_which" (defScope s__law_which) s.heap.objs.size ff cdv)) → Zc (.ref C) none oe → (∃ vs, oe.data = .fields vs) → QSs (L2H.cxH CX0 P w K mg base ["e", "own"] "_law_which" (defScope s__law_which) ff cdv A outer s H E (a, oe)) W (defBody s__law_which) (B__law_which t a) :=
  ⟨_, fun cdv A outer s H E a oe hr hz hf => (qs_cons (qs_own 1 sc__law_which.nd (qo_lst (qa_cons (qe_isE 0 EC List.mem_cons_self hz hf (pe_glob (v := .ref D_NoPlan) rfl m_NoPlan rfl) (fun _ h => h) q_NoPlan T.b_isinstance) (qa_cons (qe_isE 0 EC List.mem_cons_self hz hf (pe_glob (v := .ref D_NoLevels) rfl m_NoLevels rfl) (fun _ h => h) q_NoLevels T.b_isinstance) (qa_cons (qe_isE 0 EC List.mem_cons_self hz hf (pe_glob (v := .ref D_NoWidths) rfl m_NoWidths rfl) (fun _ h => h) q_NoWidths T.b_isinstance) (qa_cons (qe_isE 0 EC List.mem_cons_self hz hf (pe_glob (v := .ref D_NoBeam) rfl m_NoBeam rfl) (fun _ h => h) q_NoBeam T.b_isinstance) qa_nil)))))) (qs_cons (qs_expr (qe_extend 1 (qe_lst (qa_cons (qe_isE 0 EC List.mem_cons_self hz hf (pe_glob (v := .ref D_NoRoom) rfl m_NoRoom rfl) (fun _ h => h) q_NoRoom T.b_isinstance) (qa_cons (qe_isE 0 EC List.mem_cons_self hz hf (pe_glob (v := .ref D_NoProportion) rfl m_NoProportion rfl) (fun _ h => h) q_NoProportion T.b_isinstance) (qa_cons (qe_isE 0 EC List.mem_cons_self hz hf (pe_glob (v := .ref D_Parted) rfl m_Parted rfl) (fun _ h => h) q_Parted T.b_isinstance) (qa_cons (qe_isE 0 EC List.mem_cons_self hz hf (pe_glob (v := .ref D_NoNest) rfl m_NoNest rfl) (fun _ h => h) q_NoNest T.b_isinstance) qa_nil))))))) (qs_cons (qs_expr (qe_extend 1 (qe_lst (qa_cons (qe_isE 0 EC List.mem_cons_self hz hf (pe_glob (v := .ref D_NoText) rfl m_NoText rfl) (fun _ h => h) q_NoText T.b_isinstance) (qa_cons (qe_isE 0 EC List.mem_cons_self hz hf (pe_glob (v := .ref D_Nothing) rfl m_Nothing rfl) (fun _ h => h) q_Nothing T.b_isinstance) qa_nil))))) (qs_cons (qs_if (qw_pt (qw_or (qt_cmp (op_neD hr.units) d_ne (qe_countT 1 qe_bl) qe_int) (qw_or1 (qt_not (qt_val (qe_isE 0 EC List.mem_cons_self hz hf (pe_bltn (v := .ty "ValueError") rfl T.b_ValueError (by decide +kernel) rfl (by decide) (by decide)) (fun _ h => h) qV T.b_isinstance)))))) (qs_one (qs_ret (qe_tup (qa_cons qe_str (qa_cons (qe_neg qe_int) qa_nil))))) qs_nil) (qs_one (qs_ret (qe_tup (qa_cons qe_str (qa_cons (qe_indexT 1 qe_bl) qa_nil)))))))))⟩
def whT (z : Str) : Option D := if z = "Parted" then some (.tuple [.str "refused", .int 6]) else none
theorem whT_in {z : Str} {d : D} (h : whT z = some d) : (z = "Parted" ∧ d = .tuple [.str "refused", .int 6]) := by
  unfold whT at h
  split at h
  · exact ⟨‹_›, by cases h; rfl⟩
  cases h
theorem whT_RoomError (T : Txt K mg) : ∀ z d, whT z = some d → PySem.W.exmOne K (cmOf mg z) (cmOf mg "RoomError") = some true := fun z d h => by
  rcases whT_in h with ⟨rfl, rfl⟩
  · exact T.x_Parted_RoomError

theorem whB_Parted (a : Addr) : ∃ ρ', B__law_which (whTt "Parted") a (Sl.ref (.adr a) :: List.replicate (2 - 1) Sl.un) = some (.rt (.tuple [.str "refused", .int 6]), ρ') := by
  have e : ∀ b ρ, eIsE 0 a b (Sl.ref (.adr a) :: ρ) = some (.bool b, Sl.ref (.adr a) :: ρ) := fun b ρ => by unfold eIsE; simp
  have e0 : whTt "Parted" "NoPlan" = false := by decide
  have e1 : whTt "Parted" "NoLevels" = false := by decide
  have e2 : whTt "Parted" "NoWidths" = false := by decide
  have e3 : whTt "Parted" "NoBeam" = false := by decide
  have e4 : whTt "Parted" "NoRoom" = false := by decide
  have e5 : whTt "Parted" "NoProportion" = false := by decide
  have e6 : whTt "Parted" "Parted" = true := by decide
  have e7 : whTt "Parted" "NoNest" = false := by decide
  have e8 : whTt "Parted" "NoText" = false := by decide
  have e9 : whTt "Parted" "Nothing" = false := by decide
  have c0 : dNe (PyData.int ((List.count true [false, false, false, false, false, false, true, false, false, false] : Nat) : Int)) (PyData.int 1) = some (.bool false) := rfl
  have c1 : (true ∈ [false, false, false, false, false, false, true, false, false, false]) = True := by simp
  refine ⟨[Sl.ref (.adr a), .own (.lst [.bool false, .bool false, .bool false, .bool false, .bool false, .bool false, .bool true, .bool false, .bool false, .bool false])], ?_⟩
  unfold B__law_which
  simp only [sSeq, sIf, sNil, sAsg, sRet, sDrop, cV, cAnd, cOr, cNot, cTrue, eOp2, eOp1, eVar, eC, eApp, aCons, aNil, eIf, eAnd, eOr, eNot, eChain, eNeg, asB, dLt, dLe, dGt, dGe, dSub, dAbs, dMin, dMax, dLen, dList, dTuple, mkTup, mkLst, gSet, QL.gTup, gTupF, unTup, sPar2, xDat, xOwn, xNil, noScr, sOwn, oLst, iSeq, asSeq, iApp, endOf, List.map_cons, List.map_nil, List.length_cons, List.length_nil, List.length_set, List.replicate, List.cons_append, List.nil_append, List.getElem?_cons_zero, List.getElem?_cons_succ, List.getElem?_nil, Option.bind_some, Option.bind_none, Option.map_some, Option.map_none, List.set_cons_zero, List.set_cons_succ, List.set_nil, Bool.false_eq_true, if_false, if_true, ne_eq, not_false_eq_true, not_true_eq_false, and_self, and_true, true_and, Bool.not_true, Bool.not_false, Bool.and_true, Bool.true_and, Nat.reduceAdd, Nat.reduceSub, Nat.reduceLeDiff, Nat.reduceLT, Nat.reduceEqDiff, Nat.lt_irrefl, decide_true, decide_false, Option.getD_some, ownL, scrAt, eExtend, eAppend, eCountT, eIndexT, e, boolsOf, c0, c1, e0, e1, e2, e3, e4, e5, e6, e7, e8, e9]
  rfl
def HasW (P : Program) (w : World) (K : QL.Fr) (mg : Str → Option Value) (base : Heap) : Prop := ∃ f fd, (∀ z d, whT z = some d → ∃ C, cmOf mg z = .ref C ∧ FnW P w K mg base 1 f fd "e" C d) ∧ mg "_law_which" = some (.ref f) ∧ PySem.W.keepIn K (.ref f) = true ∧ Binds K fd ["e"] []
theorem okW (T : Txt K mg) (X__law_which : Def K mg "_law_which" "_law_which" s__law_which ["e"]) : HasW P w K mg base := by
  obtain ⟨ff, fd, FF, gg, bb⟩ := X__law_which
  refine ⟨ff, fd, fun z d h => ?_, gg, FF.kp, bb⟩
  rcases whT_in h with ⟨rfl, rfl⟩
  · obtain ⟨C, eC, EC, qV, hy⟩ := T.w_Parted.ex
    obtain ⟨D_NoPlan, m_NoPlan, q_NoPlan⟩ := hy "NoPlan" (by decide)
    obtain ⟨D_NoLevels, m_NoLevels, q_NoLevels⟩ := hy "NoLevels" (by decide)
    obtain ⟨D_NoWidths, m_NoWidths, q_NoWidths⟩ := hy "NoWidths" (by decide)
    obtain ⟨D_NoBeam, m_NoBeam, q_NoBeam⟩ := hy "NoBeam" (by decide)
    obtain ⟨D_NoRoom, m_NoRoom, q_NoRoom⟩ := hy "NoRoom" (by decide)
    obtain ⟨D_NoProportion, m_NoProportion, q_NoProportion⟩ := hy "NoProportion" (by decide)
    obtain ⟨D_Parted, m_Parted, q_Parted⟩ := hy "Parted" (by decide)
    obtain ⟨D_NoNest, m_NoNest, q_NoNest⟩ := hy "NoNest" (by decide)
    obtain ⟨D_NoText, m_NoText, q_NoText⟩ := hy "NoText" (by decide)
    obtain ⟨D_Nothing, m_Nothing, q_Nothing⟩ := hy "Nothing" (by decide)
    obtain ⟨W, hw⟩ := w__law_which (P := P) (w := w) (base := base) T ff C (whTt "Parted") EC qV m_NoPlan q_NoPlan m_NoLevels q_NoLevels m_NoWidths q_NoWidths m_NoBeam q_NoBeam m_NoRoom q_NoRoom m_NoProportion q_NoProportion m_Parted q_Parted m_NoNest q_NoNest m_NoText q_NoText m_Nothing q_Nothing
    exact ⟨C, eC, fnW FF sc__law_which hw whB_Parted⟩

abbrev s__law_ask : Stmt := topS 61
theorem sc__law_ask : FnScope ["plan", "number", "e"] ["plan", "number"] (defScope s__law_ask) := ⟨rfl, rfl, rfl, by decide +kernel, rfl, by decide +kernel, by decide +kernel⟩
def B__law_ask : MS := (sTryW 2 (xRet (xApp G_without_room (aCons (eVar 0) (aCons (eVar 1) aNil)))) whT)
def F__law_ask : List D → Option D := runF 2 3 B__law_ask
theorem w__law_ask (T : Txt K mg) (ff : Addr) {fX_without_room : Addr} {fdX_without_room : FuncData} (OX_without_room : FnOk P w K mg base (L2.CX P w) 8 fX_without_room fdX_without_room ["plan", "number"] (spX K (cmOf mg) G_without_room 2)) (gX_without_room : mg "without_room" = some (.ref fX_without_room)) (kX_without_room : PySem.W.keepIn K (.ref fX_without_room) = true) (bX_without_room : Binds K fdX_without_room ["plan", "number"] []) {fW : Addr} {fdW : FuncData} (OW : ∀ z d, whT z = some d → ∃ C, cmOf mg z = .ref C ∧ FnW P w K mg base 1 fW fdW "e" C d) (gW : mg "_law_which" = some (.ref fW)) (kW : PySem.W.keepIn K (.ref fW) = true) (bW : Binds K fdW ["e"] []) : ∃ W : List Nat, ∀ (cdv : Value) (A : Around) (outer : List Env) (s : Shared) (H : Hp) (E : XK), Room 8 (A.deeper (envOfC "_law_ask" (defScope s__law_ask) s.heap.objs.size ff cdv)) → QSs (cxOf CX0 P w K mg base ["plan", "number", "e"] "_law_ask" (defScope s__law_ask) ff cdv A outer s H E).nox W (defBody s__law_ask) B__law_ask :=
  ⟨_, fun cdv A outer s H E hr => (qs_one (qs_tryW 2 OW (hr.mono (by decide)) gW kW bW sc__law_ask.nd ⟨rfl, by decide, .inl T.n_RoomError⟩ (whT_RoomError T) (fun _ _ _ tk => (xss_one (xs_ret (xe_call tk OX_without_room (hr.mono (by decide)) gX_without_room kX_without_room bX_without_room (qa_cons (qe_var 0) (qa_cons (qe_var 1) qa_nil))))))))⟩
theorem ok__law_ask (T : Txt K mg) (X__law_ask : Def K mg "_law_ask" "_law_ask" s__law_ask ["plan", "number"]) (HX_without_room : HasE P w K mg base "without_room" 8 ["plan", "number"] (spX K (cmOf mg) G_without_room 2)) (HW : HasW P w K mg base) : Has P w K mg base "_law_ask" 9 ["plan", "number"] (spP K F__law_ask 2) := by
  obtain ⟨fX_without_room, fdX_without_room, OX_without_room, gX_without_room, kX_without_room, bX_without_room⟩ := HX_without_room
  obtain ⟨fW, fdW, OW, gW, kW, bW⟩ := HW
  obtain ⟨ff, fd, FF, gg, bb⟩ := X__law_ask
  obtain ⟨W, hw⟩ := w__law_ask T ff OX_without_room gX_without_room kX_without_room bX_without_room OW gW kW bW
  have o : FnOk P w K mg base CX0 9 ff fd ["plan", "number"] (spP K (runF 2 3 B__law_ask) 2) := fnP (k := 8) FF sc__law_ask hw
  exact ⟨ff, fd, o, gg, FF.kp, bb⟩
abbrev s_law : Stmt := topS 62
theorem sc_law : FnScope ["script", "town", "plan", "other", "room", "more", "made", "due", "rest", "marks", "got", "beams", "rooms", "one", "now", "number", "proportion", "a", "b", "own", "c", "d", "p", "mark"] ["script"] (defScope s_law) := ⟨rfl, rfl, rfl, by decide +kernel, rfl, by decide +kernel, by decide +kernel⟩
def B_law : MS := (sSeq (sOwn 1 (oLst aNil)) (sSeq (sAsg (eAppO F__law_some_plan (yVar 0 (yVar 1 (yDat (eC (.int 5)) (yDat (eC (.int 5)) yNil))))) (gSet 2)) (sSeq (sAsg (eVar 2) (gTup [(gSet 11), (gSet 12)])) (sSeq (sPar2 13 14 (xDat (eAppO F__law_draw (yVar 0 (yVar 1 (yDat (eVar 11) yNil)))) (xDat (eApp F_hall (aCons (eVar 2) aNil)) xNil))) (sSeq (sAsg (eOp2 dAdd (eOp2 dAdd (eVar 13) (eC (.int 1))) (eAppO F__law_draw (yVar 0 (yVar 1 (yDat (eOp2 dSub (eVar 11) (eC (.int 1))) yNil))))) (gSet 3)) (sSeq (sAsg (eApp mkTup (aCons (eVar 13) (aCons (eIf (cV (eOp2 dGe (eVar 3) (eVar 11))) (eOp2 dSub (eVar 3) (eVar 11)) (eVar 3)) (aCons (eAppO F__law_some_proportion (yVar 0 (yVar 1 yNil))) aNil)))) (gSet 4)) (sSeq (sAsg (eApp F_with_room (aCons (eVar 2) (aCons (eVar 4) aNil))) (gSet 5)) (sSeq (sIf (cOr (cV (eOp2 dNe (eVar 5) (eApp mkTup (aCons (eVar 11) (aCons (eOp2 dAdd (eVar 12) (eApp mkTup (aCons (eVar 4) aNil))) aNil))))) (cOr (cV (eApp F__law_less (aCons (eApp F_hall (aCons (eVar 5) aNil)) (aCons (eVar 14) aNil)))) (cV (eOp2 dNe (eApp F_without_room (aCons (eVar 5) (aCons (eApp dLen (aCons (eVar 12) aNil)) aNil))) (eVar 2))))) (sRet (eC (.bool false))) sNil) (sSeq (sPar2 15 16 (xDat (eAppO F__law_draw (yVar 0 (yVar 1 (yDat (eApp dLen (aCons (eVar 12) aNil)) yNil)))) (xDat (eAppO F__law_some_proportion (yVar 0 (yVar 1 yNil))) xNil))) (sSeq (sAsg (eOp2 dIx (eVar 12) (eVar 15)) (gTup [(gSet 17), (gSet 18), (gSet 19)])) (sSeq (sAsg (eApp F_wider (aCons (eVar 2) (aCons (eVar 15) (aCons (eVar 16) aNil)))) (gSet 6)) (sSeq (sAsg (eOp2 dAddT (eOp2 dAddT (eSlice (eVar 12) pNone (pSome (eVar 15))) (eApp mkTup (aCons (eApp mkTup (aCons (eVar 17) (aCons (eVar 18) (aCons (eVar 16) aNil)))) aNil))) (eSlice (eVar 12) (pSome (eOp2 dAdd (eVar 15) (eC (.int 1)))) pNone)) (gSet 7)) (sSeq (sIf (cOr (cV (eOp2 dNe (eVar 6) (eApp mkTup (aCons (eVar 11) (aCons (eVar 7) aNil))))) (cV (eOp2 dNe (eApp F_wider (aCons (eVar 6) (aCons (eVar 15) (aCons (eVar 19) aNil)))) (eVar 2)))) (sRet (eC (.bool false))) sNil) (sSeq (sIf (cAnd (cV (eApp F__law_less (aCons (eVar 19) (aCons (eVar 16) aNil)))) (cV (eApp F__law_less (aCons (eApp F_hall (aCons (eVar 6) aNil)) (aCons (eVar 14) aNil))))) (sRet (eC (.bool false))) sNil) (sSeq (sIf (cAnd (cV (eApp F__law_less (aCons (eVar 16) (aCons (eVar 19) aNil)))) (cV (eApp F__law_less (aCons (eVar 14) (aCons (eApp F_hall (aCons (eVar 6) aNil)) aNil))))) (sRet (eC (.bool false))) sNil) (sSeq (sAsg (eOp2 dAddT (eSlice (eVar 12) pNone (pSome (eVar 15))) (eSlice (eVar 12) (pSome (eOp2 dAdd (eVar 15) (eC (.int 1)))) pNone)) (gSet 8)) (sSeq (sAsg (eApp dListRange (aCons (eVar 11) aNil)) (gSet 9)) (sSeq (sFor (iSeq (eVar 8)) (gTup [(gSet 20), (gSet 21), (gSet 22)]) (sAsg (eLc [23] (iSeq (eVar 9)) (gSet 23) cTrue (eIf (cV (eOp2 dEq (eVar 23) (eOp2 dIx (eVar 9) (eVar 21)))) (eOp2 dIx (eVar 9) (eVar 20)) (eVar 23))) (gSet 9))) (sSeq (sAsg (eApp F__law_ask (aCons (eVar 2) (aCons (eVar 15) aNil))) (gSet 10)) (sSeq (sIf (cV (eOp2 dGt (eOp1 dLenSet (eVar 9)) (eC (.int 1)))) (sRet (eOp2 dEq (eVar 10) (eApp mkTup (aCons (eC (.str "refused")) (aCons (eC (.int 6)) aNil))))) sNil) (sRet (eAnd (eOp2 dEq (eVar 10) (eApp mkTup (aCons (eVar 11) (aCons (eVar 8) aNil)))) (eNot (eApp F__law_less (aCons (eVar 14) (aCons (eApp F_hall (aCons (eVar 10) aNil)) aNil))))))))))))))))))))))))))
def F_law : List Sl → Option (D × List Sl) := runO [] 1 24 B_law
theorem w_law (T : Txt K mg) (ff : Addr) {f__law_ask : Addr} {fd__law_ask : FuncData} (O__law_ask : FnOk P w K mg base CX0 9 f__law_ask fd__law_ask ["plan", "number"] (spP K F__law_ask 2)) (g__law_ask : mg "_law_ask" = some (.ref f__law_ask)) (k__law_ask : PySem.W.keepIn K (.ref f__law_ask) = true) (b__law_ask : Binds K fd__law_ask ["plan", "number"] []) {f__law_draw : Addr} {fd__law_draw : FuncData} (O__law_draw : FnOk P w K mg base CX0 3 f__law_draw fd__law_draw ["script", "town", "bound"] (spO K F__law_draw 3)) (g__law_draw : mg "_law_draw" = some (.ref f__law_draw)) (k__law_draw : PySem.W.keepIn K (.ref f__law_draw) = true) (b__law_draw : Binds K fd__law_draw ["script", "town", "bound"] []) {f__law_less : Addr} {fd__law_less : FuncData} (O__law_less : FnOk P w K mg base CX0 1 f__law_less fd__law_less ["one", "other"] (spP K F__law_less 2)) (g__law_less : mg "_law_less" = some (.ref f__law_less)) (k__law_less : PySem.W.keepIn K (.ref f__law_less) = true) (b__law_less : Binds K fd__law_less ["one", "other"] []) {f__law_some_plan : Addr} {fd__law_some_plan : FuncData} (O__law_some_plan : FnOk P w K mg base CX0 6 f__law_some_plan fd__law_some_plan ["script", "town", "beams_most", "more_most"] (spO K F__law_some_plan 4)) (g__law_some_plan : mg "_law_some_plan" = some (.ref f__law_some_plan)) (k__law_some_plan : PySem.W.keepIn K (.ref f__law_some_plan) = true) (b__law_some_plan : Binds K fd__law_some_plan ["script", "town", "beams_most", "more_most"] []) {f__law_some_proportion : Addr} {fd__law_some_proportion : FuncData} (O__law_some_proportion : FnOk P w K mg base CX0 5 f__law_some_proportion fd__law_some_proportion ["script", "town"] (spO K F__law_some_proportion 2)) (g__law_some_proportion : mg "_law_some_proportion" = some (.ref f__law_some_proportion)) (k__law_some_proportion : PySem.W.keepIn K (.ref f__law_some_proportion) = true) (b__law_some_proportion : Binds K fd__law_some_proportion ["script", "town"] []) {f_hall : Addr} {fd_hall : FuncData} (O_hall : FnOk P w K mg base CX0 9 f_hall fd_hall ["plan"] (spP K F_hall 1)) (g_hall : mg "hall" = some (.ref f_hall)) (k_hall : PySem.W.keepIn K (.ref f_hall) = true) (b_hall : Binds K fd_hall ["plan"] []) {f_wider : Addr} {fd_wider : FuncData} (O_wider : FnOk P w K mg base CX0 8 f_wider fd_wider ["plan", "number", "proportion"] (spP K F_wider 3)) (g_wider : mg "wider" = some (.ref f_wider)) (k_wider : PySem.W.keepIn K (.ref f_wider) = true) (b_wider : Binds K fd_wider ["plan", "number", "proportion"] []) {f_with_room : Addr} {fd_with_room : FuncData} (O_with_room : FnOk P w K mg base CX0 7 f_with_room fd_with_room ["plan", "room"] (spP K F_with_room 2)) (g_with_room : mg "with_room" = some (.ref f_with_room)) (k_with_room : PySem.W.keepIn K (.ref f_with_room) = true) (b_with_room : Binds K fd_with_room ["plan", "room"] []) {f_without_room : Addr} {fd_without_room : FuncData} (O_without_room : FnOk P w K mg base CX0 8 f_without_room fd_without_room ["plan", "number"] (spP K F_without_room 2)) (g_without_room : mg "without_room" = some (.ref f_without_room)) (k_without_room : PySem.W.keepIn K (.ref f_without_room) = true) (b_without_room : Binds K fd_without_room ["plan", "number"] []) : ∃ W : List Nat, (∀ i ∈ ([] : List Nat), i ∉ W) ∧ ∀ (cdv : Value) (A : Around) (outer : List Env) (s : Shared) (H : Hp) (E : XK), Room 9 (A.deeper (envOfC "law" (defScope s_law) s.heap.objs.size ff cdv)) → QSs (cxOf CX0 P w K mg base ["script", "town", "plan", "other", "room", "more", "made", "due", "rest", "marks", "got", "beams", "rooms", "one", "now", "number", "proportion", "a", "b", "own", "c", "d", "p", "mark"] "law" (defScope s_law) ff cdv A outer s H E).nox W (defBody s_law) B_law :=
  ⟨_, by decide, fun cdv A outer s H E hr => (qs_cons (qs_own 1 sc_law.nd (qo_lst qa_nil)) (qs_cons (qs_set 2 sc_law.nd (qe_callO O__law_some_plan (hr.mono (by decide)) g__law_some_plan k__law_some_plan b__law_some_plan (qy_var 0 (qy_var 1 (qy_dat qe_int (qy_dat qe_int qy_nil)))) (hF := runO_ok))) (qs_cons (qs_asg (qe_var 2) (qg_tup (qgs_cons (qg_name 11 sc_law.nd) (qgs_cons (qg_name 12 sc_law.nd) qgs_nil)))) (qs_cons (qs_par (i := 13) (j := 14) sc_law.nd (qx_dat (qe_callO O__law_draw (hr.mono (by decide)) g__law_draw k__law_draw b__law_draw (qy_var 0 (qy_var 1 (qy_dat (qe_var 11) qy_nil))) (hF := runO_ok)) (qx_dat (qe_call O_hall (hr.mono (by decide)) g_hall k_hall b_hall (qa_cons (qe_var 2) qa_nil)) qx_nil))) (qs_cons (qs_set 3 sc_law.nd (qe_add (qe_add (qe_var 13) qe_int) (qe_callO O__law_draw (hr.mono (by decide)) g__law_draw k__law_draw b__law_draw (qy_var 0 (qy_var 1 (qy_dat (qe_sub (qe_var 11) qe_int) qy_nil))) (hF := runO_ok)))) (qs_cons (qs_set 4 sc_law.nd (qe_tup (qa_cons (qe_var 13) (qa_cons (qe_if (qt_cmp op_ge d_ge (qe_var 3) (qe_var 11)) (qe_sub (qe_var 3) (qe_var 11)) (qe_var 3)) (qa_cons (qe_callO O__law_some_proportion (hr.mono (by decide)) g__law_some_proportion k__law_some_proportion b__law_some_proportion (qy_var 0 (qy_var 1 qy_nil)) (hF := runO_ok)) qa_nil))))) (qs_cons (qs_set 5 sc_law.nd (qe_call O_with_room (hr.mono (by decide)) g_with_room k_with_room b_with_room (qa_cons (qe_var 2) (qa_cons (qe_var 4) qa_nil)))) (qs_cons (qs_if (qw_pt (qw_or (qt_cmp (op_neD hr.units) d_ne (qe_var 5) (qe_tup (qa_cons (qe_var 11) (qa_cons (qe_add (qe_var 12) (qe_tup (qa_cons (qe_var 4) qa_nil))) qa_nil)))) (qw_or (qt_val (qe_call O__law_less (hr.mono (by decide)) g__law_less k__law_less b__law_less (qa_cons (qe_call O_hall (hr.mono (by decide)) g_hall k_hall b_hall (qa_cons (qe_var 5) qa_nil)) (qa_cons (qe_var 14) qa_nil)))) (qw_or1 (qt_cmp (op_neD hr.units) d_ne (qe_call O_without_room (hr.mono (by decide)) g_without_room k_without_room b_without_room (qa_cons (qe_var 5) (qa_cons (qe_callB call_len_seq d_len T.b_len (qa_cons (qe_var 12) qa_nil)) qa_nil))) (qe_var 2)))))) (qs_one (qs_ret qe_bl)) qs_nil) (qs_cons (qs_par (i := 15) (j := 16) sc_law.nd (qx_dat (qe_callO O__law_draw (hr.mono (by decide)) g__law_draw k__law_draw b__law_draw (qy_var 0 (qy_var 1 (qy_dat (qe_callB call_len_seq d_len T.b_len (qa_cons (qe_var 12) qa_nil)) qy_nil))) (hF := runO_ok)) (qx_dat (qe_callO O__law_some_proportion (hr.mono (by decide)) g__law_some_proportion k__law_some_proportion b__law_some_proportion (qy_var 0 (qy_var 1 qy_nil)) (hF := runO_ok)) qx_nil))) (qs_cons (qs_asg (qe_ix (qe_var 12) (qe_var 15)) (qg_tup (qgs_cons (qg_name 17 sc_law.nd) (qgs_cons (qg_name 18 sc_law.nd) (qgs_cons (qg_name 19 sc_law.nd) qgs_nil))))) (qs_cons (qs_set 6 sc_law.nd (qe_call O_wider (hr.mono (by decide)) g_wider k_wider b_wider (qa_cons (qe_var 2) (qa_cons (qe_var 15) (qa_cons (qe_var 16) qa_nil))))) (qs_cons (qs_set 7 sc_law.nd (qe_addT (qe_addT (qe_slice (qe_var 12) qpo_none (qpo_some (qe_var 15))) (qe_tup (qa_cons (qe_tup (qa_cons (qe_var 17) (qa_cons (qe_var 18) (qa_cons (qe_var 16) qa_nil)))) qa_nil))) (qe_slice (qe_var 12) (qpo_some (qe_add (qe_var 15) qe_int)) qpo_none))) (qs_cons (qs_if (qw_pt (qw_or (qt_cmp (op_neD hr.units) d_ne (qe_var 6) (qe_tup (qa_cons (qe_var 11) (qa_cons (qe_var 7) qa_nil)))) (qw_or1 (qt_cmp (op_neD hr.units) d_ne (qe_call O_wider (hr.mono (by decide)) g_wider k_wider b_wider (qa_cons (qe_var 6) (qa_cons (qe_var 15) (qa_cons (qe_var 19) qa_nil)))) (qe_var 2))))) (qs_one (qs_ret qe_bl)) qs_nil) (qs_cons (qs_if (qw_pt (qw_and (qt_val (qe_call O__law_less (hr.mono (by decide)) g__law_less k__law_less b__law_less (qa_cons (qe_var 19) (qa_cons (qe_var 16) qa_nil)))) (qw_and1 (qt_val (qe_call O__law_less (hr.mono (by decide)) g__law_less k__law_less b__law_less (qa_cons (qe_call O_hall (hr.mono (by decide)) g_hall k_hall b_hall (qa_cons (qe_var 6) qa_nil)) (qa_cons (qe_var 14) qa_nil))))))) (qs_one (qs_ret qe_bl)) qs_nil) (qs_cons (qs_if (qw_pt (qw_and (qt_val (qe_call O__law_less (hr.mono (by decide)) g__law_less k__law_less b__law_less (qa_cons (qe_var 16) (qa_cons (qe_var 19) qa_nil)))) (qw_and1 (qt_val (qe_call O__law_less (hr.mono (by decide)) g__law_less k__law_less b__law_less (qa_cons (qe_var 14) (qa_cons (qe_call O_hall (hr.mono (by decide)) g_hall k_hall b_hall (qa_cons (qe_var 6) qa_nil)) qa_nil))))))) (qs_one (qs_ret qe_bl)) qs_nil) (qs_cons (qs_set 8 sc_law.nd (qe_addT (qe_slice (qe_var 12) qpo_none (qpo_some (qe_var 15))) (qe_slice (qe_var 12) (qpo_some (qe_add (qe_var 15) qe_int)) qpo_none))) (qs_cons (qs_set 9 sc_law.nd (qe_listRange T.b_list (qrg_1 T.b_range (qe_var 11)))) (qs_cons (qs_for (qi_seq (qe_var 8)) (qg_tup (qgs_cons (qg_name 20 sc_law.nd) (qgs_cons (qg_name 21 sc_law.nd) (qgs_cons (qg_name 22 sc_law.nd) qgs_nil)))) (qs_one (qs_set 9 sc_law.nd (qe_lc [("mark", 23)] sc_law.nd (qi_seq (qe_var 9)) (blkOk_by (N := ["script", "town", "plan", "other", "room", "more", "made", "due", "rest", "marks", "got", "beams", "rooms", "one", "now", "number", "proportion", "a", "b", "own", "c", "d", "p", "mark"]) (sc := (defScope s_law)) (by decide +kernel)) (fun _ _ _ _ _ => (qg_name 23 sc_law.nd)) (fun _ _ _ _ _ => qts_nil) (fun _ _ _ _ _ => (qe_if (qt_cmp (op_eqD hr.units) d_eq (qe_var 23) (qe_ix (qe_var 9) (qe_var 21))) (qe_ix (qe_var 9) (qe_var 20)) (qe_var 23))))))) (qs_cons (qs_set 10 sc_law.nd (qe_call O__law_ask (hr.mono (by decide)) g__law_ask k__law_ask b__law_ask (qa_cons (qe_var 2) (qa_cons (qe_var 15) qa_nil)))) (qs_cons (qs_if (qt_cmp op_gt d_gt (qe_lenSet (qe_var 9) T.b_len T.b_set) qe_int) (qs_one (qs_ret (qe_cmp (op_eqD hr.units) d_eq (qe_var 10) (qe_tup (qa_cons qe_str (qa_cons qe_int qa_nil)))))) qs_nil) (qs_one (qs_ret (qe_and (qe_cmp (op_eqD hr.units) d_eq (qe_var 10) (qe_tup (qa_cons (qe_var 11) (qa_cons (qe_var 8) qa_nil)))) (qe_one (qe_not (qe_call O__law_less (hr.mono (by decide)) g__law_less k__law_less b__law_less (qa_cons (qe_var 14) (qa_cons (qe_call O_hall (hr.mono (by decide)) g_hall k_hall b_hall (qa_cons (qe_var 10) qa_nil)) qa_nil))))))))))))))))))))))))))))⟩
theorem ok_law (T : Txt K mg) {ff : Addr} {fd : FuncData} (FF : Fun K "law" "law" s_law ff fd) (H__law_ask : Has P w K mg base "_law_ask" 9 ["plan", "number"] (spP K F__law_ask 2)) (H__law_draw : Has P w K mg base "_law_draw" 3 ["script", "town", "bound"] (spO K F__law_draw 3)) (H__law_less : Has P w K mg base "_law_less" 1 ["one", "other"] (spP K F__law_less 2)) (H__law_some_plan : Has P w K mg base "_law_some_plan" 6 ["script", "town", "beams_most", "more_most"] (spO K F__law_some_plan 4)) (H__law_some_proportion : Has P w K mg base "_law_some_proportion" 5 ["script", "town"] (spO K F__law_some_proportion 2)) (H_hall : Has P w K mg base "hall" 9 ["plan"] (spP K F_hall 1)) (H_wider : Has P w K mg base "wider" 8 ["plan", "number", "proportion"] (spP K F_wider 3)) (H_with_room : Has P w K mg base "with_room" 7 ["plan", "room"] (spP K F_with_room 2)) (H_without_room : Has P w K mg base "without_room" 8 ["plan", "number"] (spP K F_without_room 2)) : FnOk P w K mg base CX0 10 ff fd ["script"] (spO K F_law 1) := by
  obtain ⟨f__law_ask, fd__law_ask, O__law_ask, g__law_ask, k__law_ask, b__law_ask⟩ := H__law_ask
  obtain ⟨f__law_draw, fd__law_draw, O__law_draw, g__law_draw, k__law_draw, b__law_draw⟩ := H__law_draw
  obtain ⟨f__law_less, fd__law_less, O__law_less, g__law_less, k__law_less, b__law_less⟩ := H__law_less
  obtain ⟨f__law_some_plan, fd__law_some_plan, O__law_some_plan, g__law_some_plan, k__law_some_plan, b__law_some_plan⟩ := H__law_some_plan
  obtain ⟨f__law_some_proportion, fd__law_some_proportion, O__law_some_proportion, g__law_some_proportion, k__law_some_proportion, b__law_some_proportion⟩ := H__law_some_proportion
  obtain ⟨f_hall, fd_hall, O_hall, g_hall, k_hall, b_hall⟩ := H_hall
  obtain ⟨f_wider, fd_wider, O_wider, g_wider, k_wider, b_wider⟩ := H_wider
  obtain ⟨f_with_room, fd_with_room, O_with_room, g_with_room, k_with_room, b_with_room⟩ := H_with_room
  obtain ⟨f_without_room, fd_without_room, O_without_room, g_without_room, k_without_room, b_without_room⟩ := H_without_room
  obtain ⟨W, hW, hw⟩ := w_law T ff O__law_ask g__law_ask k__law_ask b__law_ask O__law_draw g__law_draw k__law_draw b__law_draw O__law_less g__law_less k__law_less b__law_less O__law_some_plan g__law_some_plan k__law_some_plan b__law_some_plan O__law_some_proportion g__law_some_proportion k__law_some_proportion b__law_some_proportion O_hall g_hall k_hall b_hall O_wider g_wider k_wider b_wider O_with_room g_with_room k_with_room b_with_room O_without_room g_without_room k_without_room b_without_room
  have o : FnOk P w K mg base CX0 10 ff fd ["script"] (spO K (runO [] 1 24 B_law) 1) := fnO (k := 9) FF sc_law hw [] hW
  exact o
end
end QP
set_option Elab.async false
set_option linter.all false
set_option maxRecDepth 100000
set_option maxHeartbeats 1000000
namespace QP
open PySem PySem.Spec PyProof.Rows L2 QL
theorem kit1 : kitB "str" "str" = some true := by decide +kernel
theorem kit2 : kitB "int" "str" = some false := by decide +kernel
theorem kit3 : kitB "tuple" "tuple" = some true := by decide +kernel
theorem kit4 : kitB "int" "int" = some true := by decide +kernel
theorem kit5 : kitB "int" "bool" = some false := by decide +kernel
theorem kit6 : kitB "str" "int" = some false := by decide +kernel
theorem kit7 : kitB "tuple" "int" = some false := by decide +kernel
theorem kit8 : kitB "tuple" "str" = some false := by decide +kernel
theorem isa1 (x : Str) : isaV "str" (.str x) = some (.bool true) := by show (kitB "str" "str").map _ = _; rw [kit1]; rfl
theorem isa2 (x : Int) : isaV "str" (.int x) = some (.bool false) := by show (kitB "int" "str").map _ = _; rw [kit2]; rfl
theorem isa3 (x : List D) : isaV "tuple" (.tuple x) = some (.bool true) := by show (kitB "tuple" "tuple").map _ = _; rw [kit3]; rfl
theorem isa4 (x : Int) : isaV "int" (.int x) = some (.bool true) := by show (kitB "int" "int").map _ = _; rw [kit4]; rfl
theorem isa5 (x : Int) : isaV "bool" (.int x) = some (.bool false) := by show (kitB "int" "bool").map _ = _; rw [kit5]; rfl
theorem isa6 (x : Str) : isaV "int" (.str x) = some (.bool false) := by show (kitB "str" "int").map _ = _; rw [kit6]; rfl
theorem isa7 (x : List D) : isaV "int" (.tuple x) = some (.bool false) := by show (kitB "tuple" "int").map _ = _; rw [kit7]; rfl
theorem isa8 (x : List D) : isaV "str" (.tuple x) = some (.bool false) := by show (kitB "tuple" "str").map _ = _; rw [kit8]; rfl

end QP
set_option Elab.async false
set_option linter.all false
set_option maxRecDepth 100000
set_option maxHeartbeats 1000000
namespace QP
open PySem PySem.Spec PyProof.Rows L2 QL
/-! ### fractions -/
def fr (x : Rat) : D := .tuple [.int x.num, .int x.den]
/-- both parts below 2 ^ n -/
def Sz (n : Nat) (x : Rat) : Prop := x.num.natAbs < 2 ^ n ∧ x.den < 2 ^ n
theorem intMul_ok {i j : Int} {a b : Nat} (ha : i.natAbs < 2 ^ a) (hb : j.natAbs < 2 ^ b) (h : a + b ≤ 100000000) : IntMulOk i j := by
  have bits : ∀ (x : Int) (n : Nat), x.natAbs < 2 ^ n → Builtin.Int.intBits x ≤ n := fun x n hx => by
    unfold Builtin.Int.intBits
    split
    · exact Nat.zero_le _
    · rename_i hz
      have hp : x.natAbs ≠ 0 := by
        intro z
        apply hz
        have : x = 0 := by omega
        simp [this]
      have := (Nat.log2_lt hp).mpr hx
      omega
  have h1 := bits i a ha
  have h2 := bits j b hb
  have e : bitsLine = 134217728 := by decide
  unfold IntMulOk
  intro z
  rw [Bool.and_eq_true] at z
  have z2 := z.2
  unfold Builtin.Int.intTooBig at z2
  have z3 := of_decide_eq_true z2
  rw [e] at z3
  omega
theorem pylong_ok {x y : Int} {n : Nat} (h : y.natAbs < 2 ^ n) (hn : n ≤ 9000) : Builtin.divisionGoesByPylong x y = false := by
  refine PyProof.noPylong_of_log2 ?_
  rcases Nat.eq_zero_or_pos y.natAbs with h0 | hp
  · rw [h0]; decide
  · have := (Nat.log2_lt (Nat.ne_of_gt hp)).mpr (Nat.lt_of_lt_of_le h (Nat.pow_le_pow_right (by decide) hn))
    exact this
/-- simplification of the mirrors -/
theorem atI_0 {α : Type} (a : α) (l : List α) : atI (a :: l) 0 = some a := atI_nat (j := 0) rfl
theorem atI_1 {α : Type} (a b : α) (l : List α) : atI (a :: b :: l) 1 = some b := atI_nat (j := 1) rfl
theorem atI_2 {α : Type} (a b c : α) (l : List α) : atI (a :: b :: c :: l) 2 = some c := atI_nat (j := 2) rfl
theorem atI_3 {α : Type} (a b c d : α) (l : List α) : atI (a :: b :: c :: d :: l) 3 = some d := atI_nat (j := 3) rfl

/-! ### the greatest common number -/
theorem common_loop : ∀ (n a b : Nat), b < n → whileM (cV (eOp2 dGt (eVar 1) (eC (.int 0)))) (sPar2 0 1 (xDat (eVar 1) (xDat (eOp2 dMod (eVar 0) (eVar 1)) xNil))) n [.dat (.int a), .dat (.int b)] = some (.nx, [.dat (.int (Nat.gcd a b)), .dat (.int 0)])
  | 0, a, b, h => absurd h (Nat.not_lt_zero _)
  | n + 1, a, b, h => by
    unfold whileM
    by_cases hb : b = 0
    · subst hb
      simp [cV, eOp2, eVar, eC, dGt, asB]
    · have hp : 0 < b := Nat.pos_of_ne_zero hb
      have e1 : ((a % b : Nat) : Int) = (a : Int) % b := by simp
      have ih := common_loop n b (a % b) (by have := Nat.mod_lt a hp; omega)
      have e2 : Nat.gcd b (a % b) = Nat.gcd a b := by
        rw [Nat.gcd_comm b, ← Nat.gcd_rec, Nat.gcd_comm]
      rw [e2, e1] at ih
      simp [cV, eOp2, eVar, eC, dGt, asB, hp, hb, sPar2, xDat, xNil, dMod, noScr]
      rw [Int.fmod_eq_emod_of_nonneg _ (by omega)]
      exact ih
theorem F_common_eq (a b : Nat) : F_common [.int a, .int b] = some (.int (Nat.gcd a b)) := by
  have h := common_loop (b + 1) a b (Nat.lt_succ_self _)
  simp [F_common, runF, B_common, sSeq, sWhile, fu_common, slotI, h, sRet, eVar, endOf]
/-! ### a fraction in least terms -/
theorem gcd_pos {a b : Nat} (h : b ≠ 0) : 0 < Nat.gcd a b := Nat.gcd_pos_of_pos_right _ (Nat.pos_of_ne_zero h)
theorem abs_nat (a : Int) : (if a < 0 then -a else a) = (a.natAbs : Int) := by
  split <;> omega
theorem made_pos {n : Nat} (a : Int) (b : Nat) (hb : b ≠ 0) (hs : b < 2 ^ n) (hn : n ≤ 9000) : F_made_of [.int a, .int b] = some (fr (Rat.normalize a b hb)) := by
  have hg : 0 < Nat.gcd a.natAbs b := gcd_pos hb
  have hgb : Nat.gcd a.natAbs b < 2 ^ n := Nat.lt_of_le_of_lt (Nat.gcd_le_right _ (Nat.pos_of_ne_zero hb)) hs
  have hp : ∀ x : Int, Builtin.divisionGoesByPylong x (Nat.gcd a.natAbs b : Nat) = false := fun x => pylong_ok (n := n) (by simpa using hgb) hn
  have h0 : ¬ ((b : Int) < 0) := by omega
  have hgz : ¬ ((Nat.gcd a.natAbs b : Nat) : Int) = 0 := by omega
  have hgz2 : ¬ Nat.gcd a.natAbs b = 0 := by omega
  have hab : (if a < 0 then -a else a) = (a.natAbs : Int) := abs_nat a
  have e1 : Int.fdiv a (Nat.gcd a.natAbs b : Nat) = a / (Nat.gcd a.natAbs b : Nat) := Int.fdiv_eq_ediv_of_nonneg _ (by omega)
  have e2 : Int.fdiv b (Nat.gcd a.natAbs b : Nat) = ((b / Nat.gcd a.natAbs b : Nat) : Int) := by
    rw [Int.fdiv_eq_ediv_of_nonneg _ (by omega)]
    rfl
  have hF := F_common_eq a.natAbs b
  unfold F_made_of runF B_made_of
  simp only [sSeq, sIf, cV, eOp2, eVar, eC, dLt, asB, List.map_cons, List.map_nil, List.length_cons, List.length_nil, sNil, sAsg, eApp, aCons, aNil, dAbs, gSet, sRet, mkTup, dDiv, endOf, List.replicate, List.cons_append, List.nil_append, List.getElem?_cons_zero, List.getElem?_cons_succ, Option.bind_some, Option.map_some, List.set_cons_zero, List.set_cons_succ, hab, hF, decide_eq_false h0, Bool.false_eq_true, if_false, ne_eq, hgz, not_false_eq_true, hp, and_self, if_true, e1, e2, Nat.reduceAdd, Nat.reduceSub, Nat.reduceLeDiff]
  rw [Rat.normalize_eq]
  rfl

end QP
set_option Elab.async false
set_option linter.all false
set_option maxRecDepth 100000
set_option maxHeartbeats 1000000
namespace QP
open PySem PySem.Spec PyProof.Rows L2 QL
theorem made_eq {n : Nat} (a b : Int) (hb : b ≠ 0) (hs : b.natAbs < 2 ^ n) (hn : n ≤ 9000) : F_made_of [.int a, .int b] = some (fr (Rat.divInt a b)) := by
  by_cases h : b < 0
  · have hb' : b.natAbs ≠ 0 := by omega
    have key := made_pos (n := n) (-a) b.natAbs hb' hs hn
    have e1 : (0 : Int) - a = -a := by omega
    have e2 : (0 : Int) - b = (b.natAbs : Int) := by omega
    have e3 : Rat.divInt a b = Rat.normalize (-a) b.natAbs hb' := by
      have : b = -((b.natAbs : Nat) : Int) := by omega
      conv => lhs; rw [this]
      rw [Rat.divInt_neg', Rat.divInt_ofNat, Rat.normalize_eq_mkRat]
    rw [e3, ← key]
    have h0 : ¬ ((b.natAbs : Int) < 0) := by omega
    unfold F_made_of runF B_made_of
    simp only [sSeq, sIf, sNil, sAsg, sRet, sDrop, cV, cAnd, cOr, cNot, cTrue, eOp2, eOp1, eVar, eC, eApp, aCons, aNil, eIf, eAnd, eOr, eNot, eChain, eNeg, asB, dLt, dLe, dGt, dGe, dSub, dIx, dAbs, dMin, dMax, dLen, dList, dTuple, mkTup, mkLst, gSet, QL.gTup, gTupF, unTup, sPar2, xDat, xOwn, xNil, noScr, sOwn, oLst, iSeq, asSeq, iApp, endOf, List.map_cons, List.map_nil, List.length_cons, List.length_nil, List.length_set, List.replicate, List.cons_append, List.nil_append, List.getElem?_cons_zero, List.getElem?_cons_succ, List.getElem?_nil, Option.bind_some, Option.bind_none, Option.map_some, Option.map_none, List.set_cons_zero, List.set_cons_succ, List.set_nil, Bool.false_eq_true, if_false, if_true, ne_eq, not_false_eq_true, not_true_eq_false, and_self, and_true, true_and, Bool.not_true, Bool.not_false, Bool.and_true, Bool.true_and, Nat.reduceAdd, Nat.reduceSub, Nat.reduceLeDiff, Nat.reduceLT, Nat.reduceEqDiff, Nat.lt_irrefl, decide_true, decide_false, isa1, isa2, isa3, isa4, isa5, isa6, isa7, isa8, atI_0, atI_1, atI_2, atI_3, Option.getD_some, ownL, scrAt, decide_eq_true h, decide_eq_false h0, e1, e2]
  · have hb' : b.natAbs ≠ 0 := by omega
    have e : b = (b.natAbs : Int) := by omega
    have key := made_pos (n := n) a b.natAbs hb' hs hn
    rw [← e] at key
    rw [key, Rat.normalize_eq_mkRat]
    congr 2
    conv => rhs; rw [e]
    rfl
theorem den_cast (x : Rat) : ((x.den : Int)).natAbs = x.den := by omega
theorem Sz.mono {n m : Nat} {x : Rat} (h : Sz n x) (hm : n ≤ m) : Sz m x :=
  ⟨Nat.lt_of_lt_of_le h.1 (Nat.pow_le_pow_right (by decide) hm), Nat.lt_of_lt_of_le h.2 (Nat.pow_le_pow_right (by decide) hm)⟩
theorem pow_mul_lt {a b n m : Nat} (ha : a < 2 ^ n) (hb : b < 2 ^ m) : a * b < 2 ^ (n + m) := by
  rw [Nat.pow_add]
  exact Nat.mul_lt_mul'' ha hb
/-- a fraction of small parts is small -/
theorem Sz.normalize {n : Nat} {a : Int} {b : Nat} (hb : b ≠ 0) (h1 : a.natAbs < 2 ^ n) (h2 : b < 2 ^ n) : Sz n (Rat.normalize a b hb) := by
  rw [Rat.normalize_eq]
  refine ⟨?_, ?_⟩
  · show (a / _).natAbs < _
    refine Nat.lt_of_le_of_lt ?_ h1
    rw [Int.natAbs_ediv_of_dvd (Int.ofNat_dvd_left.mpr (Nat.gcd_dvd_left _ _))]
    exact Nat.div_le_self _ _
  · exact Nat.lt_of_le_of_lt (Nat.div_le_self _ _) h2
theorem Sz.add {n m : Nat} {x y : Rat} (hx : Sz n x) (hy : Sz m y) : Sz (n + m + 1) (x + y) := by
  rw [Rat.add_def]
  refine Sz.normalize _ ?_ ?_
  · have a1 := pow_mul_lt hx.1 hy.2
    have a2 := pow_mul_lt hy.1 hx.2
    rw [Nat.add_comm m n] at a2
    refine Nat.lt_of_le_of_lt (Int.natAbs_add_le _ _) ?_
    rw [Int.natAbs_mul, Int.natAbs_mul, Int.natAbs_natCast, Int.natAbs_natCast, Nat.pow_succ]
    omega
  · have := pow_mul_lt hx.2 hy.2
    rw [Nat.pow_succ]
    omega
theorem Sz.mul {n m : Nat} {x y : Rat} (hx : Sz n x) (hy : Sz m y) : Sz (n + m) (x * y) := by
  rw [Rat.mul_def]
  refine Sz.normalize _ ?_ (pow_mul_lt hx.2 hy.2)
  rw [Int.natAbs_mul]
  exact pow_mul_lt hx.1 hy.1
theorem Sz.neg {n : Nat} {x : Rat} (hx : Sz n x) : Sz n (-x) := ⟨by rw [Rat.neg_num, Int.natAbs_neg]; exact hx.1, hx.2⟩
theorem Sz.sub {n m : Nat} {x y : Rat} (hx : Sz n x) (hy : Sz m y) : Sz (n + m + 1) (x - y) := by
  rw [Rat.sub_eq_add_neg]
  exact hx.add hy.neg
theorem F_plus_eq {n m : Nat} {x y : Rat} (hx : Sz n x) (hy : Sz m y) (h : n + m ≤ 9000) : F_plus [fr x, fr y] = some (fr (x + y)) := by
  have i1 : IntMulOk x.num y.den := intMul_ok (a := n) (b := m) hx.1 (by rw [den_cast]; exact hy.2) (by omega)
  have i2 : IntMulOk y.num x.den := intMul_ok (a := m) (b := n) hy.1 (by rw [den_cast]; exact hx.2) (by omega)
  have i3 : IntMulOk x.den y.den := intMul_ok (a := n) (b := m) (by rw [den_cast]; exact hx.2) (by rw [den_cast]; exact hy.2) (by omega)
  have hb : x.den * y.den ≠ 0 := Nat.mul_ne_zero x.den_nz y.den_nz
  have key := made_pos (n := n + m) (x.num * y.den + y.num * x.den) (x.den * y.den) hb (pow_mul_lt hx.2 hy.2) h
  have e : ((x.den * y.den : Nat) : Int) = (x.den : Int) * y.den := by simp
  rw [e] at key
  unfold F_plus runF B_plus fr
  simp only [sSeq, sIf, sNil, sAsg, sRet, sDrop, cV, cAnd, cOr, cNot, cTrue, eOp2, eOp1, eVar, eC, eApp, aCons, aNil, eIf, eAnd, eOr, eNot, eChain, eNeg, asB, dLt, dLe, dGt, dGe, dSub, dIx, dAbs, dMin, dMax, dLen, dList, dTuple, mkTup, mkLst, gSet, QL.gTup, gTupF, unTup, sPar2, xDat, xOwn, xNil, noScr, sOwn, oLst, iSeq, asSeq, iApp, endOf, List.map_cons, List.map_nil, List.length_cons, List.length_nil, List.length_set, List.replicate, List.cons_append, List.nil_append, List.getElem?_cons_zero, List.getElem?_cons_succ, List.getElem?_nil, Option.bind_some, Option.bind_none, Option.map_some, Option.map_none, List.set_cons_zero, List.set_cons_succ, List.set_nil, Bool.false_eq_true, if_false, if_true, ne_eq, not_false_eq_true, not_true_eq_false, and_self, and_true, true_and, Bool.not_true, Bool.not_false, Bool.and_true, Bool.true_and, Nat.reduceAdd, Nat.reduceSub, Nat.reduceLeDiff, Nat.reduceLT, Nat.reduceEqDiff, Nat.lt_irrefl, decide_true, decide_false, isa1, isa2, isa3, isa4, isa5, isa6, isa7, isa8, atI_0, atI_1, atI_2, atI_3, Option.getD_some, ownL, scrAt, dMul, dAdd, i1, i2, i3, key]
  rw [Rat.add_def]
  rfl
theorem F_times_eq {n m : Nat} {x y : Rat} (hx : Sz n x) (hy : Sz m y) (h : n + m ≤ 9000) : F_times [fr x, fr y] = some (fr (x * y)) := by
  have i1 : IntMulOk x.num y.num := intMul_ok (a := n) (b := m) hx.1 hy.1 (by omega)
  have i3 : IntMulOk x.den y.den := intMul_ok (a := n) (b := m) (by rw [den_cast]; exact hx.2) (by rw [den_cast]; exact hy.2) (by omega)
  have hb : x.den * y.den ≠ 0 := Nat.mul_ne_zero x.den_nz y.den_nz
  have key := made_pos (n := n + m) (x.num * y.num) (x.den * y.den) hb (pow_mul_lt hx.2 hy.2) h
  have e : ((x.den * y.den : Nat) : Int) = (x.den : Int) * y.den := by simp
  rw [e] at key
  unfold F_times runF B_times fr
  simp only [sSeq, sIf, sNil, sAsg, sRet, sDrop, cV, cAnd, cOr, cNot, cTrue, eOp2, eOp1, eVar, eC, eApp, aCons, aNil, eIf, eAnd, eOr, eNot, eChain, eNeg, asB, dLt, dLe, dGt, dGe, dSub, dIx, dAbs, dMin, dMax, dLen, dList, dTuple, mkTup, mkLst, gSet, QL.gTup, gTupF, unTup, sPar2, xDat, xOwn, xNil, noScr, sOwn, oLst, iSeq, asSeq, iApp, endOf, List.map_cons, List.map_nil, List.length_cons, List.length_nil, List.length_set, List.replicate, List.cons_append, List.nil_append, List.getElem?_cons_zero, List.getElem?_cons_succ, List.getElem?_nil, Option.bind_some, Option.bind_none, Option.map_some, Option.map_none, List.set_cons_zero, List.set_cons_succ, List.set_nil, Bool.false_eq_true, if_false, if_true, ne_eq, not_false_eq_true, not_true_eq_false, and_self, and_true, true_and, Bool.not_true, Bool.not_false, Bool.and_true, Bool.true_and, Nat.reduceAdd, Nat.reduceSub, Nat.reduceLeDiff, Nat.reduceLT, Nat.reduceEqDiff, Nat.lt_irrefl, decide_true, decide_false, isa1, isa2, isa3, isa4, isa5, isa6, isa7, isa8, atI_0, atI_1, atI_2, atI_3, Option.getD_some, ownL, scrAt, dMul, dAdd, i1, i3, key]
  rw [Rat.mul_def]
  rfl
theorem num_ne {y : Rat} (h : y ≠ 0) : y.num ≠ 0 := fun z => h (by
  exact Rat.num_eq_zero.mp z)
theorem num_over_den (x : Rat) : x = (x.num : Rat) / (x.den : Rat) := by
  have h := Rat.num_divInt_den x
  rw [Rat.divInt_eq_div, Rat.intCast_natCast] at h
  exact h.symm
theorem div_eq_divInt (x y : Rat) (hy : y ≠ 0) : Rat.divInt (x.num * y.den) (x.den * y.num) = x / y := by
  have h1 : (x.den : Rat) ≠ 0 := by
    have := x.den_nz
    exact_mod_cast this
  have h2 : (y.den : Rat) ≠ 0 := by
    have := y.den_nz
    exact_mod_cast this
  have h3 : (y.num : Rat) ≠ 0 := by
    have := num_ne hy
    exact_mod_cast this
  rw [Rat.divInt_eq_div]
  have ex : x = (x.num : Rat) / (x.den : Rat) := num_over_den x
  have ey : y = (y.num : Rat) / (y.den : Rat) := num_over_den y
  conv => rhs; rw [ex, ey]
  rw [Rat.intCast_mul, Rat.intCast_mul, Rat.intCast_natCast, Rat.intCast_natCast]
  grind
theorem F_over_eq {n m : Nat} {x y : Rat} (hx : Sz n x) (hy : Sz m y) (h : n + m ≤ 9000) (h0 : y ≠ 0) : F_over [fr x, fr y] = some (fr (x / y)) := by
  have i1 : IntMulOk x.num y.den := intMul_ok (a := n) (b := m) hx.1 (by rw [den_cast]; exact hy.2) (by omega)
  have i3 : IntMulOk x.den y.num := intMul_ok (a := n) (b := m) (by rw [den_cast]; exact hx.2) hy.1 (by omega)
  have hb : (x.den : Int) * y.num ≠ 0 := Int.mul_ne_zero (by have := x.den_nz; omega) (num_ne h0)
  have key := made_eq (n := n + m) (x.num * y.den) (x.den * y.num) hb (by rw [Int.natAbs_mul, den_cast]; exact pow_mul_lt hx.2 hy.1) h
  unfold F_over runF B_over fr
  simp only [sSeq, sIf, sNil, sAsg, sRet, sDrop, cV, cAnd, cOr, cNot, cTrue, eOp2, eOp1, eVar, eC, eApp, aCons, aNil, eIf, eAnd, eOr, eNot, eChain, eNeg, asB, dLt, dLe, dGt, dGe, dSub, dIx, dAbs, dMin, dMax, dLen, dList, dTuple, mkTup, mkLst, gSet, QL.gTup, gTupF, unTup, sPar2, xDat, xOwn, xNil, noScr, sOwn, oLst, iSeq, asSeq, iApp, endOf, List.map_cons, List.map_nil, List.length_cons, List.length_nil, List.length_set, List.replicate, List.cons_append, List.nil_append, List.getElem?_cons_zero, List.getElem?_cons_succ, List.getElem?_nil, Option.bind_some, Option.bind_none, Option.map_some, Option.map_none, List.set_cons_zero, List.set_cons_succ, List.set_nil, Bool.false_eq_true, if_false, if_true, ne_eq, not_false_eq_true, not_true_eq_false, and_self, and_true, true_and, Bool.not_true, Bool.not_false, Bool.and_true, Bool.true_and, Nat.reduceAdd, Nat.reduceSub, Nat.reduceLeDiff, Nat.reduceLT, Nat.reduceEqDiff, Nat.lt_irrefl, decide_true, decide_false, isa1, isa2, isa3, isa4, isa5, isa6, isa7, isa8, atI_0, atI_1, atI_2, atI_3, Option.getD_some, ownL, scrAt, dMul, dAdd, i1, i3, key]
  rw [div_eq_divInt x y h0]
  rfl
theorem Sz.div {n m : Nat} {x y : Rat} (hx : Sz n x) (hy : Sz m y) (h0 : y ≠ 0) : Sz (n + m) (x / y) := by
  rw [← div_eq_divInt x y h0]
  have hb : (x.den : Int) * y.num ≠ 0 := Int.mul_ne_zero (by have := x.den_nz; omega) (num_ne h0)
  have hd : ((x.den : Int) * y.num).natAbs ≠ 0 := by omega
  have e : Rat.divInt (x.num * y.den) (x.den * y.num) = Rat.normalize (((x.den : Int) * y.num).sign * (x.num * y.den)) ((x.den : Int) * y.num).natAbs hd := by
    rw [Rat.normalize_eq_mkRat, ← Rat.divInt_ofNat]
    have : (((x.den : Int) * y.num).natAbs : Int) = ((x.den : Int) * y.num).sign * ((x.den : Int) * y.num) := by rw [Int.sign_mul_self]
    rw [this, Rat.divInt_mul_left]
    intro z
    exact hb (Int.sign_eq_zero_iff_zero.mp z)
  rw [e]
  refine Sz.normalize _ ?_ ?_
  · rw [Int.natAbs_mul, Int.natAbs_sign_of_ne_zero hb, Nat.one_mul, Int.natAbs_mul, den_cast]
    exact pow_mul_lt hx.1 hy.2
  · rw [Int.natAbs_mul, den_cast]
    exact pow_mul_lt hx.2 hy.1

end QP
set_option Elab.async false
set_option linter.all false
set_option maxRecDepth 100000
set_option maxHeartbeats 1000000
namespace QP
open PySem PySem.Spec PyProof.Rows L2 QL
theorem dNe_int (a b : Int) : dNe (.int a) (.int b) = some (.bool (!(a == b))) := rfl
theorem dEq_int (a b : Int) : dEq (.int a) (.int b) = some (.bool (a == b)) := rfl
/-! ### the law's own least terms -/
theorem both_loop (B : Nat) (hB : B ≤ 9000) : ∀ (n a b : Nat), b < n → a < 2 ^ B → b < 2 ^ B → whileM (cV (eOp2 dNe (eVar 1) (eC (.int 0)))) (sPar2 0 1 (xDat (eVar 1) (xDat (eOp2 dSub (eVar 0) (eOp2 dMul (eOp2 dDiv (eVar 0) (eVar 1)) (eVar 1))) xNil))) n [.dat (.int a), .dat (.int b)] = some (.nx, [.dat (.int (Nat.gcd a b)), .dat (.int 0)])
  | 0, a, b, h, _, _ => absurd h (Nat.not_lt_zero _)
  | n + 1, a, b, h, ha, hb2 => by
    unfold whileM
    by_cases hb : b = 0
    · subst hb
      simp [cV, eOp2, eVar, eC, dNe_int, asB]
    · have hp : 0 < b := Nat.pos_of_ne_zero hb
      have hbz : ¬ (b : Int) = 0 := by omega
      have h1 : Builtin.divisionGoesByPylong a b = false := pylong_ok (n := B) (by simpa using hb2) hB
      have e1 : Int.fdiv a b = ((a / b : Nat) : Int) := by rw [Int.fdiv_eq_ediv_of_nonneg _ (by omega)]; rfl
      have hq : a / b < 2 ^ B := Nat.lt_of_le_of_lt (Nat.div_le_self _ _) ha
      have h2 : IntMulOk ((a / b : Nat) : Int) (b : Int) := intMul_ok (a := B) (b := B) (by rw [Int.natAbs_natCast]; exact hq) (by rw [Int.natAbs_natCast]; exact hb2) (by omega)
      have e3 : (a : Int) - ((a / b : Nat) : Int) * (b : Int) = ((a % b : Nat) : Int) := by
        have := Nat.div_add_mod a b
        have e : ((a / b : Nat) : Int) * (b : Int) = ((b * (a / b) : Nat) : Int) := by
          rw [Nat.mul_comm]; simp
        rw [e]
        omega
      have ih := both_loop B hB n b (a % b) (by have := Nat.mod_lt a hp; omega) hb2 (Nat.lt_trans (Nat.mod_lt a hp) hb2)
      have e2 : Nat.gcd b (a % b) = Nat.gcd a b := by
        rw [Nat.gcd_comm b, ← Nat.gcd_rec, Nat.gcd_comm]
      rw [e2] at ih
      have hne : (!((b : Int) == 0)) = true := by simp [hb]
      simp only [sSeq, sIf, sNil, sAsg, sRet, sDrop, cV, cAnd, cOr, cNot, cTrue, eOp2, eOp1, eVar, eC, eApp, aCons, aNil, eIf, eAnd, eOr, eNot, eChain, eNeg, asB, dLt, dLe, dGt, dGe, dSub, dIx, dAbs, dMin, dMax, dLen, dList, dTuple, mkTup, mkLst, gSet, QL.gTup, gTupF, unTup, sPar2, xDat, xOwn, xNil, noScr, sOwn, oLst, iSeq, asSeq, iApp, endOf, List.map_cons, List.map_nil, List.length_cons, List.length_nil, List.length_set, List.replicate, List.cons_append, List.nil_append, List.getElem?_cons_zero, List.getElem?_cons_succ, List.getElem?_nil, Option.bind_some, Option.bind_none, Option.map_some, Option.map_none, List.set_cons_zero, List.set_cons_succ, List.set_nil, Bool.false_eq_true, if_false, if_true, ne_eq, not_false_eq_true, not_true_eq_false, and_self, and_true, true_and, Bool.not_true, Bool.not_false, Bool.and_true, Bool.true_and, Nat.reduceAdd, Nat.reduceSub, Nat.reduceLeDiff, Nat.reduceLT, Nat.reduceEqDiff, Nat.lt_irrefl, decide_true, decide_false, isa1, isa2, isa3, isa4, isa5, isa6, isa7, isa8, atI_0, atI_1, atI_2, atI_3, Option.getD_some, ownL, scrAt, dNe_int, hne, dMul, dDiv, hbz, h1, e1, h2, e3]
      exact ih
theorem F__law_both_eq {B : Nat} (hB : B ≤ 9000) (a b : Nat) (ha : a < 2 ^ B) (hb : b < 2 ^ B) : F__law_both [.int a, .int b] = some (.int (Nat.gcd a b)) := by
  have h := both_loop B hB (b + 1) a b (Nat.lt_succ_self _) ha hb
  simp [F__law_both, runF, B__law_both, sSeq, sWhile, fu__law_both, slotI, h, sRet, eVar, endOf]
theorem part_pos {n : Nat} (a : Int) (b : Nat) (hb : b ≠ 0) (ha : a.natAbs < 2 ^ n) (hs : b < 2 ^ n) (hn : n ≤ 9000) : F__law_part [.int a, .int b] = some (fr (Rat.normalize a b hb)) := by
  have hg : 0 < Nat.gcd a.natAbs b := gcd_pos hb
  have hgb : Nat.gcd a.natAbs b < 2 ^ n := Nat.lt_of_le_of_lt (Nat.gcd_le_right _ (Nat.pos_of_ne_zero hb)) hs
  have hp : ∀ x : Int, Builtin.divisionGoesByPylong x (Nat.gcd a.natAbs b : Nat) = false := fun x => pylong_ok (n := n) (by simpa using hgb) hn
  have h0 : ¬ ((b : Int) < 0) := by omega
  have hgz : ¬ ((Nat.gcd a.natAbs b : Nat) : Int) = 0 := by omega
  have hab : (if a < 0 then -a else a) = (a.natAbs : Int) := abs_nat a
  have e1 : Int.fdiv a (Nat.gcd a.natAbs b : Nat) = a / (Nat.gcd a.natAbs b : Nat) := Int.fdiv_eq_ediv_of_nonneg _ (by omega)
  have e2 : Int.fdiv b (Nat.gcd a.natAbs b : Nat) = ((b / Nat.gcd a.natAbs b : Nat) : Int) := by
    rw [Int.fdiv_eq_ediv_of_nonneg _ (by omega)]
    rfl
  have hF := F__law_both_eq hn a.natAbs b ha hs
  unfold F__law_part runF B__law_part
  simp only [sSeq, sIf, sNil, sAsg, sRet, sDrop, cV, cAnd, cOr, cNot, cTrue, eOp2, eOp1, eVar, eC, eApp, aCons, aNil, eIf, eAnd, eOr, eNot, eChain, eNeg, asB, dLt, dLe, dGt, dGe, dSub, dIx, dAbs, dMin, dMax, dLen, dList, dTuple, mkTup, mkLst, gSet, QL.gTup, gTupF, unTup, sPar2, xDat, xOwn, xNil, noScr, sOwn, oLst, iSeq, asSeq, iApp, endOf, List.map_cons, List.map_nil, List.length_cons, List.length_nil, List.length_set, List.replicate, List.cons_append, List.nil_append, List.getElem?_cons_zero, List.getElem?_cons_succ, List.getElem?_nil, Option.bind_some, Option.bind_none, Option.map_some, Option.map_none, List.set_cons_zero, List.set_cons_succ, List.set_nil, Bool.false_eq_true, if_false, if_true, ne_eq, not_false_eq_true, not_true_eq_false, and_self, and_true, true_and, Bool.not_true, Bool.not_false, Bool.and_true, Bool.true_and, Nat.reduceAdd, Nat.reduceSub, Nat.reduceLeDiff, Nat.reduceLT, Nat.reduceEqDiff, Nat.lt_irrefl, decide_true, decide_false, isa1, isa2, isa3, isa4, isa5, isa6, isa7, isa8, atI_0, atI_1, atI_2, atI_3, Option.getD_some, ownL, scrAt, dDiv, hab, hF, decide_eq_false h0, hgz, hp, e1, e2]
  rw [Rat.normalize_eq]
  rfl

/-! ### draws -/
theorem mul_small {a b : Int} (h : -(2 ^ 64) < b ∧ b < 2 ^ 64) : IntMulOk a b := .of_right (intBits_le_64 h.1 h.2)
theorem mul_small' {a b : Int} (h : -(2 ^ 64) < a ∧ a < 2 ^ 64) : IntMulOk a b := .of_left (intBits_le_64 h.1 h.2)
theorem spare_loop (ns : List Int) (k : Int) : ∀ (xs : List D) (s : Int) (t : Sl), ∃ (s' : Int) (t' : Sl), QL.forM (gSet 3) (sAsg (eOp2 dDiv (eVar 2) (eC (.int 1000003))) (gSet 2)) xs [.scr ns, .dat (.int k), .dat (.int s), t] = some (.nx, [.scr ns, .dat (.int k), .dat (.int s'), t'])
  | [], s, t => ⟨s, t, rfl⟩
  | x :: xs, s, t => by
    obtain ⟨s', t', h⟩ := spare_loop ns k xs (Int.fdiv s 1000003) (.dat x)
    refine ⟨s', t', ?_⟩
    have h1 : Builtin.divisionGoesByPylong s 1000003 = false := pylong_ok (n := 20) (by decide) (by decide)
    unfold QL.forM
    simp only [sSeq, sIf, sNil, sAsg, sRet, sDrop, cV, cAnd, cOr, cNot, cTrue, eOp2, eOp1, eVar, eC, eApp, aCons, aNil, eIf, eAnd, eOr, eNot, eChain, eNeg, asB, dLt, dLe, dGt, dGe, dSub, dIx, dAbs, dMin, dMax, dLen, dList, dTuple, mkTup, mkLst, gSet, QL.gTup, gTupF, unTup, sPar2, xDat, xOwn, xNil, noScr, sOwn, oLst, iSeq, asSeq, iApp, endOf, List.map_cons, List.map_nil, List.length_cons, List.length_nil, List.length_set, List.replicate, List.cons_append, List.nil_append, List.getElem?_cons_zero, List.getElem?_cons_succ, List.getElem?_nil, Option.bind_some, Option.bind_none, Option.map_some, Option.map_none, List.set_cons_zero, List.set_cons_succ, List.set_nil, Bool.false_eq_true, if_false, if_true, ne_eq, not_false_eq_true, not_true_eq_false, and_self, and_true, true_and, Bool.not_true, Bool.not_false, Bool.and_true, Bool.true_and, Nat.reduceAdd, Nat.reduceSub, Nat.reduceLeDiff, Nat.reduceLT, Nat.reduceEqDiff, Nat.lt_irrefl, decide_true, decide_false, isa1, isa2, isa3, isa4, isa5, isa6, isa7, isa8, atI_0, atI_1, atI_2, atI_3, Option.getD_some, ownL, scrAt, dDiv, h1, show ¬ (1000003 : Int) = 0 by decide]
    exact h
theorem atI_ok {α : Type} {xs : List α} {i : Int} (h0 : 0 ≤ i) (h1 : i < xs.length) : ∃ a, atI xs i = some a ∧ a ∈ xs := by
  obtain ⟨j, rfl⟩ : ∃ j : Nat, i = (j : Int) := ⟨i.toNat, by omega⟩
  have hj : j < xs.length := by omega
  exact ⟨xs[j], atI_nat (by simp), List.getElem_mem _⟩
theorem cell_ok (ns : List Int) (h63 : ns.length ≤ 63) (k : Nat) (hk : k < 2 ^ 60) : ∃ r : Int, F__law_cell_at [.scr ns, .dat (.int k)] = some (.int r, [.scr ns, .dat (.int k)]) := by
  by_cases h1 : (k : Int) < ns.length
  · obtain ⟨r, hr, _⟩ := atI_ok (xs := ns) (i := k) (by omega) h1
    refine ⟨r, ?_⟩
    unfold F__law_cell_at runO B__law_cell_at
    simp only [sSeq, sIf, sNil, sAsg, sRet, sDrop, cV, cAnd, cOr, cNot, cTrue, eOp2, eOp1, eVar, eC, eApp, aCons, aNil, eIf, eAnd, eOr, eNot, eChain, eNeg, asB, dLt, dLe, dGt, dGe, dSub, dIx, dAbs, dMin, dMax, dLen, dList, dTuple, mkTup, mkLst, gSet, QL.gTup, gTupF, unTup, sPar2, xDat, xOwn, xNil, noScr, sOwn, oLst, iSeq, asSeq, iApp, endOf, List.map_cons, List.map_nil, List.length_cons, List.length_nil, List.length_set, List.replicate, List.cons_append, List.nil_append, List.getElem?_cons_zero, List.getElem?_cons_succ, List.getElem?_nil, Option.bind_some, Option.bind_none, Option.map_some, Option.map_none, List.set_cons_zero, List.set_cons_succ, List.set_nil, Bool.false_eq_true, if_false, if_true, ne_eq, not_false_eq_true, not_true_eq_false, and_self, and_true, true_and, Bool.not_true, Bool.not_false, Bool.and_true, Bool.true_and, Nat.reduceAdd, Nat.reduceSub, Nat.reduceLeDiff, Nat.reduceLT, Nat.reduceEqDiff, Nat.lt_irrefl, decide_true, decide_false, isa1, isa2, isa3, isa4, isa5, isa6, isa7, isa8, atI_0, atI_1, atI_2, atI_3, Option.getD_some, ownL, scrAt, eLenS, eIxS, ownsIn, decide_eq_true h1, hr, endO, backO, pick, Nat.le_refl]
  · by_cases h2 : ns = []
    · subst h2
      refine ⟨0, ?_⟩
      have h1' : ¬ (k : Int) < ((0 : Nat) : Int) := by omega
      unfold F__law_cell_at runO B__law_cell_at
      simp only [sSeq, sIf, sNil, sAsg, sRet, sDrop, cV, cAnd, cOr, cNot, cTrue, eOp2, eOp1, eVar, eC, eApp, aCons, aNil, eIf, eAnd, eOr, eNot, eChain, eNeg, asB, dLt, dLe, dGt, dGe, dSub, dIx, dAbs, dMin, dMax, dLen, dList, dTuple, mkTup, mkLst, gSet, QL.gTup, gTupF, unTup, sPar2, xDat, xOwn, xNil, noScr, sOwn, oLst, iSeq, asSeq, iApp, endOf, List.map_cons, List.map_nil, List.length_cons, List.length_nil, List.length_set, List.replicate, List.cons_append, List.nil_append, List.getElem?_cons_zero, List.getElem?_cons_succ, List.getElem?_nil, Option.bind_some, Option.bind_none, Option.map_some, Option.map_none, List.set_cons_zero, List.set_cons_succ, List.set_nil, Bool.false_eq_true, if_false, if_true, ne_eq, not_false_eq_true, not_true_eq_false, and_self, and_true, true_and, Bool.not_true, Bool.not_false, Bool.and_true, Bool.true_and, Nat.reduceAdd, Nat.reduceSub, Nat.reduceLeDiff, Nat.reduceLT, Nat.reduceEqDiff, Nat.lt_irrefl, decide_true, decide_false, isa1, isa2, isa3, isa4, isa5, isa6, isa7, isa8, atI_0, atI_1, atI_2, atI_3, Option.getD_some, ownL, scrAt, eLenS, eIxS, eEqNilS, ownsIn, decide_eq_false h1', endO, backO, pick, Nat.le_refl, List.isEmpty_nil]
    · have hl : 0 < ns.length := List.length_pos_iff.mpr h2
      have hlz : ¬ (ns.length : Int) = 0 := by omega
      have e1 : Int.fmod k ns.length = ((k % ns.length : Nat) : Int) := by
        rw [Int.fmod_eq_emod_of_nonneg _ (by omega)]; rfl
      have e2 : Int.fdiv k ns.length = ((k / ns.length : Nat) : Int) := by
        rw [Int.fdiv_eq_ediv_of_nonneg _ (by omega)]; rfl
      obtain ⟨c, hc, _⟩ := atI_ok (xs := ns) (i := ((k % ns.length : Nat) : Int)) (by omega) (by have := Nat.mod_lt k hl; omega)
      have hp : Builtin.divisionGoesByPylong k ns.length = false := pylong_ok (n := 10) (by show ns.length < 1024; omega) (by decide)
      obtain ⟨s', t', hs⟩ := spare_loop ns k (intsD 0 (if (60 : Int) < ((k / ns.length : Nat) : Int) then (60 : Int) else ((k / ns.length : Nat) : Int)).toNat) c .un
      have hemp : ns.isEmpty = false := by cases ns with | nil => exact absurd rfl h2 | cons a r => rfl
      have hm1 : IntMulOk c 31 := mul_small (by decide)
      have hm2 : IntMulOk s' 101 := mul_small (by decide)
      have hr : (if (60 : Int) < ((k / ns.length : Nat) : Int) then (60 : Int) else ((k / ns.length : Nat) : Int)).natAbs < 2 ^ 62 := by
        split
        · decide
        · rename_i hq
          rw [Int.natAbs_natCast]
          have : ((k / ns.length : Nat) : Int) ≤ 60 := by omega
          have : k / ns.length ≤ 60 := by exact_mod_cast this
          omega
      refine ⟨c * 31 + k + s' * 101, ?_⟩
      unfold F__law_cell_at runO B__law_cell_at
      simp only [sSeq, sIf, sNil, sAsg, sRet, sDrop, cV, cAnd, cOr, cNot, cTrue, eOp2, eOp1, eVar, eC, eApp, aCons, aNil, eIf, eAnd, eOr, eNot, eChain, eNeg, asB, dLt, dLe, dGt, dGe, dSub, dIx, dAbs, dMin, dMax, dLen, dList, dTuple, mkTup, mkLst, gSet, QL.gTup, gTupF, unTup, sPar2, xDat, xOwn, xNil, noScr, sOwn, oLst, iSeq, asSeq, iApp, endOf, List.map_cons, List.map_nil, List.length_cons, List.length_nil, List.length_set, List.replicate, List.cons_append, List.nil_append, List.getElem?_cons_zero, List.getElem?_cons_succ, List.getElem?_nil, Option.bind_some, Option.bind_none, Option.map_some, Option.map_none, List.set_cons_zero, List.set_cons_succ, List.set_nil, Bool.false_eq_true, if_false, if_true, ne_eq, not_false_eq_true, not_true_eq_false, and_self, and_true, true_and, Bool.not_true, Bool.not_false, Bool.and_true, Bool.true_and, Nat.reduceAdd, Nat.reduceSub, Nat.reduceLeDiff, Nat.reduceLT, Nat.reduceEqDiff, Nat.lt_irrefl, decide_true, decide_false, isa1, isa2, isa3, isa4, isa5, isa6, isa7, isa8, atI_0, atI_1, atI_2, atI_3, Option.getD_some, ownL, scrAt, eLenS, eIxS, eEqNilS, ownsIn, decide_eq_false h1, endO, backO, pick, Nat.le_refl, hemp, dMod, dDiv, hlz, e1, e2, hc, hp, sFor, rng1, hr, hs, dMul, dAdd, hm1, hm2]
theorem mixed_ok (ns : List Int) (h63 : ns.length ≤ 63) (k : Nat) (hk : k < 2 ^ 60) (b : Int) (hb : 0 < b) : ∃ r : Int, F__law_mixed [.scr ns, .dat (.int k), .dat (.int b)] = some (.int r, [.scr ns, .dat (.int k), .dat (.int b)]) ∧ 0 ≤ r ∧ r < b := by
  obtain ⟨c, hc⟩ := cell_ok ns h63 k hk
  have hm1 : IntMulOk c 1103515245 := mul_small (by decide)
  have hm2 : IntMulOk 7919 (k : Int) := mul_small' (by decide)
  have hbz : ¬ b = 0 := by omega
  obtain ⟨s, hsd⟩ : ∃ s : Int, Int.fmod (c * 1103515245 + 7919 * k + 12345) 2147483647 = s := ⟨_, rfl⟩
  have hs : 0 ≤ s ∧ s < 2147483647 := by
    rw [← hsd, Int.fmod_eq_emod_of_nonneg _ (by decide)]
    exact ⟨Int.emod_nonneg _ (by decide), Int.emod_lt_of_pos _ (by decide)⟩
  have hp : s.natAbs < 2 ^ 64 := by omega
  refine ⟨Int.fmod (Int.fmod (Int.fmod (s ^ 5) 2147483647) 999983) b, ?_, ?_, ?_⟩
  · unfold F__law_mixed runO B__law_mixed
    simp only [sSeq, sIf, sNil, sAsg, sRet, sDrop, cV, cAnd, cOr, cNot, cTrue, eOp2, eOp1, eVar, eC, eApp, aCons, aNil, eIf, eAnd, eOr, eNot, eChain, eNeg, asB, dLt, dLe, dGt, dGe, dSub, dIx, dAbs, dMin, dMax, dLen, dList, dTuple, mkTup, mkLst, gSet, QL.gTup, gTupF, unTup, sPar2, xDat, xOwn, xNil, noScr, sOwn, oLst, iSeq, asSeq, iApp, endOf, List.map_cons, List.map_nil, List.length_cons, List.length_nil, List.length_set, List.replicate, List.cons_append, List.nil_append, List.getElem?_cons_zero, List.getElem?_cons_succ, List.getElem?_nil, Option.bind_some, Option.bind_none, Option.map_some, Option.map_none, List.set_cons_zero, List.set_cons_succ, List.set_nil, Bool.false_eq_true, if_false, if_true, ne_eq, not_false_eq_true, not_true_eq_false, and_self, and_true, true_and, Bool.not_true, Bool.not_false, Bool.and_true, Bool.true_and, Nat.reduceAdd, Nat.reduceSub, Nat.reduceLeDiff, Nat.reduceLT, Nat.reduceEqDiff, Nat.lt_irrefl, decide_true, decide_false, isa1, isa2, isa3, isa4, isa5, isa6, isa7, isa8, atI_0, atI_1, atI_2, atI_3, Option.getD_some, ownL, scrAt, eAppO, yVar, yDat, yNil, isRef, ownIx, List.nodup_nil, toSl, clr, put, hc, dMul, dAdd, hm1, hm2, dMod, show ¬ (2147483647 : Int) = 0 by decide, show ¬ (999983 : Int) = 0 by decide, hbz, ownsIn, endO, backO, pick, Nat.le_refl, dPow, show (0 : Int) ≤ 5 by decide, show (5 : Int) ≤ 1000000 by decide, show Int.toNat 5 = 5 by rfl, hsd, hp]
  · rw [Int.fmod_eq_emod_of_nonneg _ (by omega)]
    exact Int.emod_nonneg _ (by omega)
  · rw [Int.fmod_eq_emod_of_nonneg _ (by omega)]
    exact Int.emod_lt_of_pos _ hb
theorem draw_ok (ns : List Int) (h63 : ns.length ≤ 63) (ts : List D) (ht : ts.length < 100000) (b : Int) (hb : 0 < b) : ∃ r : Int, F__law_draw [.scr ns, .own (.lst ts), .dat (.int b)] = some (.int r, [.scr ns, .own (.lst (ts ++ [.int 0])), .dat (.int b)]) ∧ 0 ≤ r ∧ r < b := by
  obtain ⟨r, hr, h1, h2⟩ := mixed_ok ns h63 (ts.length + 1) (by omega) b hb
  refine ⟨r, ?_, h1, h2⟩
  have hl : ts.length < 1000000 := by omega
  have e : ((ts ++ [PyData.int 0]).length : Int) = ((ts.length + 1 : Nat) : Int) := by simp
  unfold F__law_draw runO B__law_draw
  simp only [sSeq, sIf, sNil, sAsg, sRet, sDrop, cV, cAnd, cOr, cNot, cTrue, eOp2, eOp1, eVar, eC, eApp, aCons, aNil, eIf, eAnd, eOr, eNot, eChain, eNeg, asB, dLt, dLe, dGt, dGe, dSub, dIx, dAbs, dMin, dMax, dLen, dList, dTuple, mkTup, mkLst, gSet, QL.gTup, gTupF, unTup, sPar2, xDat, xOwn, xNil, noScr, sOwn, oLst, iSeq, asSeq, iApp, endOf, List.map_cons, List.map_nil, List.length_cons, List.length_nil, List.length_set, List.replicate, List.cons_append, List.nil_append, List.getElem?_cons_zero, List.getElem?_cons_succ, List.getElem?_nil, Option.bind_some, Option.bind_none, Option.map_some, Option.map_none, List.set_cons_zero, List.set_cons_succ, List.set_nil, Bool.false_eq_true, if_false, if_true, ne_eq, not_false_eq_true, not_true_eq_false, and_self, and_true, true_and, Bool.not_true, Bool.not_false, Bool.and_true, Bool.true_and, Nat.reduceAdd, Nat.reduceSub, Nat.reduceLeDiff, Nat.reduceLT, Nat.reduceEqDiff, Nat.lt_irrefl, decide_true, decide_false, isa1, isa2, isa3, isa4, isa5, isa6, isa7, isa8, atI_0, atI_1, atI_2, atI_3, Option.getD_some, ownL, scrAt, eAppend, hl, ownsIn, List.contains_cons, List.contains_nil, BEq.rfl, Bool.true_or, eAppO, yVar, yDat, yNil, isRef, eLenO, e, ownIx, List.nodup_nil, toSl, clr, put, hr, endO, backO, pick, Nat.le_refl]

end QP
set_option Elab.async false
set_option linter.all false
set_option maxRecDepth 100000
set_option maxHeartbeats 1000000
namespace QP
open PySem PySem.Spec PyProof.Rows L2 QL
/-! ### comprehensions that change nothing -/
theorem set_un {ρ : Ro} {i : Nat} {s : Sl} (h : ρ[i]? = some s) (t : Sl) : (ρ.set i t).set i s = ρ := by
  rw [List.set_set]
  refine List.ext_getElem? fun j => ?_
  rw [List.getElem?_set]
  split
  · rename_i e
    subst e
    have hl := (List.getElem?_eq_some_iff.mp h).1
    rw [if_pos hl]
    exact h.symm
  · rfl
theorem lc_pure {α : Type} {i : Nat} {ρ : Ro} {m : M D} {g h : α → D} (hi : ρ[i]? = some .un) : ∀ (as : List α) (acc : List D), (∀ a ∈ as, m (ρ.set i (.dat (g a))) = some (h a, ρ.set i (.dat (g a)))) → acc.length + as.length ≤ 1000000 → lcM [i] (gSet i) cTrue m (as.map g) ρ acc = some (acc ++ as.map h, ρ)
  | [], acc, _, _ => by simp [lcM]
  | a :: as, acc, hm, hl => by
    have h1 := hm a List.mem_cons_self
    have ih := lc_pure hi as (acc ++ [h a]) (fun b hb => hm b (List.mem_cons_of_mem _ hb)) (by simp at hl ⊢; omega)
    have hlt : acc.length < 1000000 := by simp at hl; omega
    have e : wipeR (ρ.set i (.dat (g a))) [i] = ρ := by
      show (ρ.set i (.dat (g a))).set i .un = ρ
      exact set_un hi _
    rw [List.map_cons]
    unfold lcM
    simp only [gSet, Option.bind_some, cTrue, if_true, h1, hlt, e, ih, List.append_assoc, List.cons_append, List.nil_append, List.map_cons]
theorem eLc_pure {α : Type} {i : Nat} {ρ : Ro} {it : M (List D)} {m : M D} {g h : α → D} (as : List α) (hit : it ρ = some (as.map g, ρ)) (hi : ρ[i]? = some .un ∨ ∃ d, ρ[i]? = some (.dat d)) (hl : as.length ≤ 1000000) (hm : ∀ a ∈ as, m (ρ.set i (.dat (g a))) = some (h a, ρ.set i (.dat (g a)))) : eLc [i] it (gSet i) cTrue m ρ = some (.list (as.map h), ρ) := by
  have hlen : i < ρ.length := by
    rcases hi with h | ⟨d, h⟩ <;> exact (List.getElem?_eq_some_iff.mp h).1
  have hu : (ρ.set i .un)[i]? = some .un := List.getElem?_set_self hlen
  have key := lc_pure (ρ := ρ.set i .un) (m := m) (g := g) (h := h) hu as [] (fun a ha => by rw [List.set_set]; exact hm a ha) (by simpa using hl)
  have e1 : wipeR ρ [i] = ρ.set i .un := rfl
  have e2 : wipeR (ρ.set i .un) [i] = ρ.set i .un := by show (ρ.set i .un).set i .un = _; rw [List.set_set]
  have e3 : backR ρ (ρ.set i .un) [i] = ρ := by
    show (ρ.set i .un).set i (match ρ[i]? with | some s => keepD s | none => .un) = ρ
    rcases hi with h | ⟨d, h⟩
    · rw [h]; exact set_un h _
    · rw [h]; exact set_un h _
  unfold eLc oLc
  rw [hit]
  simp only [Option.bind_some, e1, key, Option.map_some, e2, e3, List.nil_append]

/-- proportions as they are drawn, or one over them -/
def Pr (x : Rat) : Prop := 0 < x ∧ Sz 5 x
theorem dEq_str {x y : Str} {c : Bool} (h1 : SeqAt.shaped (.str x) = true) (h2 : SeqAt.shaped (.str y) = true) (h : (x == y) = c) : dEq (.str x) (.str y) = some (.bool c) := by
  unfold dEq
  rw [if_pos ⟨h1, h2⟩]
  show some (PyData.bool (x == y)) = _
  rw [h]
/-! ### a drawn proportion -/
theorem pick_ok (ns : List Int) (h63 : ns.length ≤ 63) (ts : List D) (ht : ts.length < 100000) (some' : List D) (hs : some' ≠ []) : ∃ d, F__law_pick [.scr ns, .own (.lst ts), .dat (.list some')] = some (d, [.scr ns, .own (.lst (ts ++ [.int 0])), .dat (.list some')]) ∧ d ∈ some' := by
  obtain ⟨r, hr, h1, h2⟩ := draw_ok ns h63 ts ht some'.length (by have := List.length_pos_iff.mpr hs; omega)
  obtain ⟨d, hd, hm⟩ := atI_ok h1 h2
  refine ⟨d, ?_, hm⟩
  unfold F__law_pick runO B__law_pick
  simp only [sSeq, sIf, sNil, sAsg, sRet, sDrop, cV, cAnd, cOr, cNot, cTrue, eOp2, eOp1, eVar, eC, eApp, aCons, aNil, eIf, eAnd, eOr, eNot, eChain, eNeg, asB, dLt, dLe, dGt, dGe, dSub, dIx, dAbs, dMin, dMax, dLen, dList, dTuple, mkTup, mkLst, gSet, QL.gTup, gTupF, unTup, sPar2, xDat, xOwn, xNil, noScr, sOwn, oLst, iSeq, asSeq, iApp, endOf, List.map_cons, List.map_nil, List.length_cons, List.length_nil, List.length_set, List.replicate, List.cons_append, List.nil_append, List.getElem?_cons_zero, List.getElem?_cons_succ, List.getElem?_nil, Option.bind_some, Option.bind_none, Option.map_some, Option.map_none, List.set_cons_zero, List.set_cons_succ, List.set_nil, Bool.false_eq_true, if_false, if_true, ne_eq, not_false_eq_true, not_true_eq_false, and_self, and_true, true_and, Bool.not_true, Bool.not_false, Bool.and_true, Bool.true_and, Nat.reduceAdd, Nat.reduceSub, Nat.reduceLeDiff, Nat.reduceLT, Nat.reduceEqDiff, Nat.lt_irrefl, decide_true, decide_false, isa1, isa2, isa3, isa4, isa5, isa6, isa7, isa8, atI_0, atI_1, atI_2, atI_3, Option.getD_some, ownL, scrAt, ownsIn, List.contains_cons, List.contains_nil, BEq.rfl, Bool.true_or, eAppO, yVar, yDat, yNil, isRef, ownIx, List.nodup_cons, List.not_mem_nil, List.nodup_nil, toSl, clr, put, hr, hd, endO, backO, pick, Nat.le_refl]
theorem pr_of (a b : Nat) (ha : 1 ≤ a) (ha2 : a ≤ 30) (hb : b ≠ 0) (hb2 : b ≤ 4) : Pr (Rat.normalize (a : Int) b hb) := by
  refine ⟨?_, Sz.normalize hb (show ((a : Int)).natAbs < 2 ^ 5 by omega) (by omega)⟩
  rw [Rat.normalize_eq_mkRat]
  rw [← Rat.divInt_ofNat, Rat.divInt_eq_div]
  have h1 : (0 : Rat) < ((a : Int) : Rat) := by exact_mod_cast (by omega : (0 : Int) < a)
  have h2 : (0 : Rat) < (((b : Nat) : Int) : Rat) := by exact_mod_cast (by omega : (0 : Int) < (b : Int))
  rw [Rat.div_def]
  exact Rat.mul_pos h1 (Rat.inv_pos.mpr h2)
theorem fr_parts {t : Int} {b : Nat} (hb : b ≠ 0) : Rat.normalize t b hb = (t : Rat) / ((b : Int) : Rat) := by
  rw [Rat.normalize_eq_mkRat, ← Rat.divInt_ofNat, Rat.divInt_eq_div]
theorem prop_ok (ns : List Int) (h63 : ns.length ≤ 63) (ts : List D) (ht : ts.length < 90000) : ∃ x ts', F__law_some_proportion [.scr ns, .own (.lst ts)] = some (fr x, [.scr ns, .own (.lst ts')]) ∧ Pr x ∧ ts'.length = ts.length + 3 ∧ ∃ a b : Nat, 1 ≤ a ∧ a ≤ 30 ∧ 1 ≤ b ∧ b ≤ 4 ∧ x = ((a : Int) : Rat) / ((b : Int) : Rat) := by
  obtain ⟨d, hd, hm⟩ := pick_ok ns h63 ts (by omega) [.int 1, .int 4, .int 30] (by simp)
  obtain ⟨c, rfl, hc1, hc2⟩ : ∃ c : Int, d = .int c ∧ 0 < c ∧ c ≤ 30 := by
    simp only [List.mem_cons, List.not_mem_nil, or_false] at hm
    rcases hm with rfl | rfl | rfl
    · exact ⟨1, rfl, by decide, by decide⟩
    · exact ⟨4, rfl, by decide, by decide⟩
    · exact ⟨30, rfl, by decide, by decide⟩
  obtain ⟨r, hr, r1, r2⟩ := draw_ok ns h63 (ts ++ [.int 0]) (by simp; omega) c hc1
  obtain ⟨s, hs, s1, s2⟩ := draw_ok ns h63 (ts ++ [.int 0] ++ [.int 0]) (by simp; omega) 4 (by decide)
  obtain ⟨a, ea⟩ : ∃ a : Nat, 1 + r = (a : Int) := ⟨(1 + r).toNat, by omega⟩
  obtain ⟨b, eb⟩ : ∃ b : Nat, 1 + s = (b : Int) := ⟨(1 + s).toNat, by omega⟩
  have hb : b ≠ 0 := by omega
  have key := part_pos (n := 5) (a : Int) b hb (show ((a : Int)).natAbs < 2 ^ 5 by omega) (by omega) (by decide)
  refine ⟨_, ts ++ [.int 0] ++ [.int 0] ++ [.int 0], ?_, pr_of a b (by omega) (by omega) hb (by omega), by simp, a, b, by omega, by omega, by omega, by omega, fr_parts hb⟩
  unfold F__law_some_proportion runO B__law_some_proportion
  simp only [sSeq, sIf, sNil, sAsg, sRet, sDrop, cV, cAnd, cOr, cNot, cTrue, eOp2, eOp1, eVar, eC, eApp, aCons, aNil, eIf, eAnd, eOr, eNot, eChain, eNeg, asB, dLt, dLe, dGt, dGe, dSub, dIx, dAbs, dMin, dMax, dLen, dList, dTuple, mkTup, mkLst, gSet, QL.gTup, gTupF, unTup, sPar2, xDat, xOwn, xNil, noScr, sOwn, oLst, iSeq, asSeq, iApp, endOf, List.map_cons, List.map_nil, List.length_cons, List.length_nil, List.length_set, List.replicate, List.cons_append, List.nil_append, List.getElem?_cons_zero, List.getElem?_cons_succ, List.getElem?_nil, Option.bind_some, Option.bind_none, Option.map_some, Option.map_none, List.set_cons_zero, List.set_cons_succ, List.set_nil, Bool.false_eq_true, if_false, if_true, ne_eq, not_false_eq_true, not_true_eq_false, and_self, and_true, true_and, Bool.not_true, Bool.not_false, Bool.and_true, Bool.true_and, Nat.reduceAdd, Nat.reduceSub, Nat.reduceLeDiff, Nat.reduceLT, Nat.reduceEqDiff, Nat.lt_irrefl, decide_true, decide_false, isa1, isa2, isa3, isa4, isa5, isa6, isa7, isa8, atI_0, atI_1, atI_2, atI_3, Option.getD_some, ownL, scrAt, ownsIn, List.contains_cons, List.contains_nil, BEq.rfl, Bool.true_or, eAppO, yVar, yDat, yNil, isRef, ownIx, List.nodup_cons, List.not_mem_nil, List.nodup_nil, toSl, clr, put, hd, hr, hs, dAdd, ea, eb, key, endO, backO, pick, Nat.le_refl]

end QP
set_option Elab.async false
set_option linter.all false
set_option maxRecDepth 100000
set_option maxHeartbeats 1000000
namespace QP
open PySem PySem.Spec PyProof.Rows L2 QL
/-! ### what is a proportion -/
theorem ne22 : dNe (.int ((2 : Nat) : Int)) (.int 2) = some (.bool false) := rfl
theorem any_int (i : Int) : F_is_any_whole [.int i] = some (.bool true) := by
  unfold F_is_any_whole runF B_is_any_whole
  simp only [sSeq, sIf, sNil, sAsg, sRet, sDrop, cV, cAnd, cOr, cNot, cTrue, eOp2, eOp1, eVar, eC, eApp, aCons, aNil, eIf, eAnd, eOr, eNot, eChain, eNeg, asB, dLt, dLe, dGt, dGe, dSub, dIx, dAbs, dMin, dMax, dLen, dList, dTuple, mkTup, mkLst, gSet, QL.gTup, gTupF, unTup, sPar2, xDat, xOwn, xNil, noScr, sOwn, oLst, iSeq, asSeq, iApp, endOf, List.map_cons, List.map_nil, List.length_cons, List.length_nil, List.length_set, List.replicate, List.cons_append, List.nil_append, List.getElem?_cons_zero, List.getElem?_cons_succ, List.getElem?_nil, Option.bind_some, Option.bind_none, Option.map_some, Option.map_none, List.set_cons_zero, List.set_cons_succ, List.set_nil, Bool.false_eq_true, if_false, if_true, ne_eq, not_false_eq_true, not_true_eq_false, and_self, and_true, true_and, Bool.not_true, Bool.not_false, Bool.and_true, Bool.true_and, Nat.reduceAdd, Nat.reduceSub, Nat.reduceLeDiff, Nat.reduceLT, Nat.reduceEqDiff, Nat.lt_irrefl, decide_true, decide_false, isa1, isa2, isa3, isa4, isa5, isa6, isa7, isa8, atI_0, atI_1, atI_2, atI_3, Option.getD_some, ownL, scrAt]
theorem any_str (i : Str) : F_is_any_whole [.str i] = some (.bool false) := by
  unfold F_is_any_whole runF B_is_any_whole
  simp only [sSeq, sIf, sNil, sAsg, sRet, sDrop, cV, cAnd, cOr, cNot, cTrue, eOp2, eOp1, eVar, eC, eApp, aCons, aNil, eIf, eAnd, eOr, eNot, eChain, eNeg, asB, dLt, dLe, dGt, dGe, dSub, dIx, dAbs, dMin, dMax, dLen, dList, dTuple, mkTup, mkLst, gSet, QL.gTup, gTupF, unTup, sPar2, xDat, xOwn, xNil, noScr, sOwn, oLst, iSeq, asSeq, iApp, endOf, List.map_cons, List.map_nil, List.length_cons, List.length_nil, List.length_set, List.replicate, List.cons_append, List.nil_append, List.getElem?_cons_zero, List.getElem?_cons_succ, List.getElem?_nil, Option.bind_some, Option.bind_none, Option.map_some, Option.map_none, List.set_cons_zero, List.set_cons_succ, List.set_nil, Bool.false_eq_true, if_false, if_true, ne_eq, not_false_eq_true, not_true_eq_false, and_self, and_true, true_and, Bool.not_true, Bool.not_false, Bool.and_true, Bool.true_and, Nat.reduceAdd, Nat.reduceSub, Nat.reduceLeDiff, Nat.reduceLT, Nat.reduceEqDiff, Nat.lt_irrefl, decide_true, decide_false, isa1, isa2, isa3, isa4, isa5, isa6, isa7, isa8, atI_0, atI_1, atI_2, atI_3, Option.getD_some, ownL, scrAt]
theorem any_tup (i : List D) : F_is_any_whole [.tuple i] = some (.bool false) := by
  unfold F_is_any_whole runF B_is_any_whole
  simp only [sSeq, sIf, sNil, sAsg, sRet, sDrop, cV, cAnd, cOr, cNot, cTrue, eOp2, eOp1, eVar, eC, eApp, aCons, aNil, eIf, eAnd, eOr, eNot, eChain, eNeg, asB, dLt, dLe, dGt, dGe, dSub, dIx, dAbs, dMin, dMax, dLen, dList, dTuple, mkTup, mkLst, gSet, QL.gTup, gTupF, unTup, sPar2, xDat, xOwn, xNil, noScr, sOwn, oLst, iSeq, asSeq, iApp, endOf, List.map_cons, List.map_nil, List.length_cons, List.length_nil, List.length_set, List.replicate, List.cons_append, List.nil_append, List.getElem?_cons_zero, List.getElem?_cons_succ, List.getElem?_nil, Option.bind_some, Option.bind_none, Option.map_some, Option.map_none, List.set_cons_zero, List.set_cons_succ, List.set_nil, Bool.false_eq_true, if_false, if_true, ne_eq, not_false_eq_true, not_true_eq_false, and_self, and_true, true_and, Bool.not_true, Bool.not_false, Bool.and_true, Bool.true_and, Nat.reduceAdd, Nat.reduceSub, Nat.reduceLeDiff, Nat.reduceLT, Nat.reduceEqDiff, Nat.lt_irrefl, decide_true, decide_false, isa1, isa2, isa3, isa4, isa5, isa6, isa7, isa8, atI_0, atI_1, atI_2, atI_3, Option.getD_some, ownL, scrAt]
theorem frac_true (x : Rat) : F_is_fraction [fr x] = some (.bool true) := by
  have hd : decide ((0 : Int) < (x.den : Int)) = true := decide_eq_true (by have := x.den_nz; omega)
  have hc := F_common_eq x.num.natAbs x.den
  have hg : Nat.gcd x.num.natAbs x.den = 1 := x.reduced
  rw [hg] at hc
  have hab : (if x.num < 0 then -x.num else x.num) = (x.num.natAbs : Int) := abs_nat _
  have e1 : dEq (.int ((1 : Nat) : Int)) (.int 1) = some (.bool true) := rfl
  unfold F_is_fraction runF B_is_fraction fr
  simp only [sSeq, sIf, sNil, sAsg, sRet, sDrop, cV, cAnd, cOr, cNot, cTrue, eOp2, eOp1, eVar, eC, eApp, aCons, aNil, eIf, eAnd, eOr, eNot, eChain, eNeg, asB, dLt, dLe, dGt, dGe, dSub, dIx, dAbs, dMin, dMax, dLen, dList, dTuple, mkTup, mkLst, gSet, QL.gTup, gTupF, unTup, sPar2, xDat, xOwn, xNil, noScr, sOwn, oLst, iSeq, asSeq, iApp, endOf, List.map_cons, List.map_nil, List.length_cons, List.length_nil, List.length_set, List.replicate, List.cons_append, List.nil_append, List.getElem?_cons_zero, List.getElem?_cons_succ, List.getElem?_nil, Option.bind_some, Option.bind_none, Option.map_some, Option.map_none, List.set_cons_zero, List.set_cons_succ, List.set_nil, Bool.false_eq_true, if_false, if_true, ne_eq, not_false_eq_true, not_true_eq_false, and_self, and_true, true_and, Bool.not_true, Bool.not_false, Bool.and_true, Bool.true_and, Nat.reduceAdd, Nat.reduceSub, Nat.reduceLeDiff, Nat.reduceLT, Nat.reduceEqDiff, Nat.lt_irrefl, decide_true, decide_false, isa1, isa2, isa3, isa4, isa5, isa6, isa7, isa8, atI_0, atI_1, atI_2, atI_3, Option.getD_some, ownL, scrAt, ne22, eLc, oLc, wipeR, lcM, any_int, backR, keepD, dAll, bools, List.all_cons, List.all_nil, id, Nat.zero_lt_succ, Nat.reduceLT, hd, hab, hc, e1]
theorem num_pos {x : Rat} (h : 0 < x) : 0 < x.num := by
  have h1 : 0 ≤ x.num := Rat.num_nonneg.mpr (Rat.le_of_lt h)
  have h2 : x.num ≠ 0 := num_ne (fun z => by rw [z] at h; exact absurd h (by decide))
  omega
theorem prop_true {x : Rat} (h : 0 < x) : F_is_proportion [fr x] = some (.bool true) := by
  have hd : decide ((0 : Int) < x.num) = true := decide_eq_true (num_pos h)
  have e : dIx (fr x) (.int 0) = some (.int x.num) := rfl
  have h1 := frac_true x
  unfold F_is_proportion runF B_is_proportion
  simp only [sSeq, sIf, sNil, sAsg, sRet, sDrop, cV, cAnd, cOr, cNot, cTrue, eOp2, eOp1, eVar, eC, eApp, aCons, aNil, eIf, eAnd, eOr, eNot, eChain, eNeg, asB, dLt, dLe, dGt, dGe, dSub, dIx, dAbs, dMin, dMax, dLen, dList, dTuple, mkTup, mkLst, gSet, QL.gTup, gTupF, unTup, sPar2, xDat, xOwn, xNil, noScr, sOwn, oLst, iSeq, asSeq, iApp, endOf, List.map_cons, List.map_nil, List.length_cons, List.length_nil, List.length_set, List.replicate, List.cons_append, List.nil_append, List.getElem?_cons_zero, List.getElem?_cons_succ, List.getElem?_nil, Option.bind_some, Option.bind_none, Option.map_some, Option.map_none, List.set_cons_zero, List.set_cons_succ, List.set_nil, Bool.false_eq_true, if_false, if_true, ne_eq, not_false_eq_true, not_true_eq_false, and_self, and_true, true_and, Bool.not_true, Bool.not_false, Bool.and_true, Bool.true_and, Nat.reduceAdd, Nat.reduceSub, Nat.reduceLeDiff, Nat.reduceLT, Nat.reduceEqDiff, Nat.lt_irrefl, decide_true, decide_false, isa1, isa2, isa3, isa4, isa5, isa6, isa7, isa8, atI_0, atI_1, atI_2, atI_3, Option.getD_some, ownL, scrAt, h1]
  unfold fr
  simp only [sSeq, sIf, sNil, sAsg, sRet, sDrop, cV, cAnd, cOr, cNot, cTrue, eOp2, eOp1, eVar, eC, eApp, aCons, aNil, eIf, eAnd, eOr, eNot, eChain, eNeg, asB, dLt, dLe, dGt, dGe, dSub, dIx, dAbs, dMin, dMax, dLen, dList, dTuple, mkTup, mkLst, gSet, QL.gTup, gTupF, unTup, sPar2, xDat, xOwn, xNil, noScr, sOwn, oLst, iSeq, asSeq, iApp, endOf, List.map_cons, List.map_nil, List.length_cons, List.length_nil, List.length_set, List.replicate, List.cons_append, List.nil_append, List.getElem?_cons_zero, List.getElem?_cons_succ, List.getElem?_nil, Option.bind_some, Option.bind_none, Option.map_some, Option.map_none, List.set_cons_zero, List.set_cons_succ, List.set_nil, Bool.false_eq_true, if_false, if_true, ne_eq, not_false_eq_true, not_true_eq_false, and_self, and_true, true_and, Bool.not_true, Bool.not_false, Bool.and_true, Bool.true_and, Nat.reduceAdd, Nat.reduceSub, Nat.reduceLeDiff, Nat.reduceLT, Nat.reduceEqDiff, Nat.lt_irrefl, decide_true, decide_false, isa1, isa2, isa3, isa4, isa5, isa6, isa7, isa8, atI_0, atI_1, atI_2, atI_3, Option.getD_some, ownL, scrAt, hd]

end QP
set_option Elab.async false
set_option linter.all false
set_option maxRecDepth 100000
set_option maxHeartbeats 1000000
namespace QP
open PySem PySem.Spec PyProof.Rows L2 QL
/-! ### sums -/
def sm : Nat → (Nat → Rat) → Rat
  | 0, _ => 0
  | n + 1, f => sm n f + f n
theorem sm_congr {f g : Nat → Rat} : ∀ {n : Nat}, (∀ i, i < n → f i = g i) → sm n f = sm n g
  | 0, _ => rfl
  | n + 1, h => by
    show sm n f + f n = sm n g + g n
    rw [sm_congr fun i hi => h i (by omega), h n (by omega)]
theorem sm_add (f g : Nat → Rat) : ∀ n, sm n (fun i => f i + g i) = sm n f + sm n g
  | 0 => by show (0 : Rat) = 0 + 0; grind
  | n + 1 => by
    show sm n _ + (f n + g n) = (sm n f + f n) + (sm n g + g n)
    rw [sm_add f g n]; grind
theorem sm_mul (c : Rat) (f : Nat → Rat) : ∀ n, sm n (fun i => c * f i) = c * sm n f
  | 0 => by show (0 : Rat) = c * 0; grind
  | n + 1 => by
    show sm n _ + c * f n = c * (sm n f + f n)
    rw [sm_mul c f n]; grind
theorem sm_zero {f : Nat → Rat} {n : Nat} (h : ∀ i, i < n → f i = 0) : sm n f = 0 := by
  rw [sm_congr (g := fun _ => 0 * 0) fun i hi => by rw [h i hi]; grind, sm_mul]; grind
theorem sm_one {f : Nat → Rat} {k : Nat} : ∀ {n : Nat}, k < n → (∀ i, i < n → i ≠ k → f i = 0) → sm n f = f k
  | 0, h, _ => absurd h (Nat.not_lt_zero _)
  | n + 1, h, h0 => by
    show sm n f + f n = f k
    by_cases q : k = n
    · subst q
      rw [sm_zero fun i hi => h0 i (by omega) (by omega)]; grind
    · rw [sm_one (n := n) (by omega) fun i hi => h0 i (by omega), h0 n (by omega) (by omega)]; grind
theorem sm_sub (f g : Nat → Rat) (n : Nat) : sm n (fun i => f i - g i) = sm n f - sm n g := by
  rw [sm_congr (g := fun i => f i + (-1) * g i) fun i _ => by grind, sm_add, sm_mul]; grind
theorem sm_nonneg {f : Nat → Rat} : ∀ {n : Nat}, (∀ i, i < n → 0 ≤ f i) → 0 ≤ sm n f
  | 0, _ => by show (0 : Rat) ≤ 0; grind
  | n + 1, h => by
    show 0 ≤ sm n f + f n
    have := sm_nonneg (n := n) fun i hi => h i (by omega)
    have := h n (by omega)
    grind

/-! ### Gauss and Jordan -/
abbrev Mat := Nat → Nat → Rat
def Nul (a : Mat) (m : Nat) (y : Nat → Rat) : Prop := ∀ i, i < m → sm (m + 1) (fun j => a i j * y j) = 0
def Inj (a : Mat) (m : Nat) : Prop := ∀ y, Nul a m y → y m = 0 → ∀ j, j < m → y j = 0
def Unt (a : Mat) (m k : Nat) : Prop := ∀ i, i < m → ∀ j, j < k → a i j = if i = j then 1 else 0
def swp (a : Mat) (p q : Nat) : Mat := fun i => if i = q then a p else if i = p then a q else a i
def stp (a : Mat) (p : Nat) : Mat := fun i j => if i = p then a p j / a p p else a i j - a i p * (a p j / a p p)
theorem swp_nul {a : Mat} {m p q : Nat} {y : Nat → Rat} (hp : p < m) (hq : q < m) (h : Nul (swp a p q) m y) : Nul a m y := fun i hi => by
  by_cases h1 : i = p
  · have := h q hq
    unfold swp at this
    simp only [if_true] at this
    rw [h1]; exact this
  · by_cases h2 : i = q
    · have := h p hp
      unfold swp at this
      by_cases h3 : p = q
      · rw [h2, ← h3]; simpa [h3] using this
      · simp only [if_neg h3, if_true] at this
        rw [h2]; exact this
    · have := h i hi
      unfold swp at this
      simp only [if_neg h1, if_neg h2] at this
      exact this
theorem stp_nul {a : Mat} {m p : Nat} {y : Nat → Rat} (hp : p < m) (h0 : a p p ≠ 0) (h : Nul (stp a p) m y) : Nul a m y := by
  have hh : sm (m + 1) (fun j => a p j / a p p * y j) = 0 := by
    have := h p hp
    unfold stp at this
    simpa using this
  have hp0 : sm (m + 1) (fun j => a p j * y j) = 0 := by
    rw [sm_congr (g := fun j => a p p * (a p j / a p p * y j)) fun j _ => by grind, sm_mul, hh]; grind
  intro i hi
  by_cases q : i = p
  · subst q; exact hp0
  · have := h i hi
    unfold stp at this
    simp only [if_neg q] at this
    rw [sm_congr (g := fun j => (a i j - a i p * (a p j / a p p)) * y j + a i p * (a p j / a p p * y j)) fun j _ => by grind, sm_add, this, sm_mul, hh]; grind
theorem inj_of {a b : Mat} {m : Nat} (h : ∀ y, Nul b m y → Nul a m y) (hi : Inj a m) : Inj b m := fun y hy => hi y (h y hy)
theorem pivot {a : Mat} {m k : Nat} (hk : k < m) (hi : Inj a m) (hu : Unt a m k) : ∃ t, k ≤ t ∧ t < m ∧ a t k ≠ 0 := by
  refine Classical.byContradiction fun hn => ?_
  have hz : ∀ t, k ≤ t → t < m → a t k = 0 := fun t h1 h2 => Classical.byContradiction fun q => hn ⟨t, h1, h2, q⟩
  let y : Nat → Rat := fun j => if j < k then - a j k else if j = k then 1 else 0
  have hy : Nul a m y := fun i hi => by
    by_cases q : i < k
    · -- a i k * 1 + a i i * (- a i k)
      have e : sm (m + 1) (fun j => a i j * y j) = sm (m + 1) (fun j => (if j = k then a i k else 0) + (if j = i then - a i k else 0)) := sm_congr fun j hj => by
        show a i j * (if j < k then - a j k else if j = k then 1 else 0) = _
        by_cases j1 : j < k
        · rw [if_pos j1, if_neg (by omega : ¬ j = k), hu i hi j j1]
          by_cases j2 : i = j
          · subst j2; rw [if_pos rfl, if_pos rfl]; grind
          · rw [if_neg j2, if_neg (by omega)]; grind
        · rw [if_neg j1, if_neg (by omega : ¬ j = i)]
          by_cases j2 : j = k
          · subst j2; rw [if_pos rfl, if_pos rfl]; grind
          · rw [if_neg j2, if_neg j2]; grind
      rw [e, sm_add, sm_one (k := k) (by omega) (fun j _ hj => by rw [if_neg hj]), sm_one (k := i) (by omega) (fun j _ hj => by rw [if_neg hj]), if_pos rfl, if_pos rfl]; grind
    · refine sm_zero fun j hj => ?_
      show a i j * (if j < k then - a j k else if j = k then 1 else 0) = 0
      by_cases j1 : j < k
      · rw [hu i hi j j1, if_neg (by omega)]; grind
      · rw [if_neg j1]
        by_cases j2 : j = k
        · subst j2; rw [hz i (by omega) hi]; grind
        · rw [if_neg j2]; grind
  have := hi y hy (by show (if m < k then _ else if m = k then (1 : Rat) else 0) = 0; rw [if_neg (by omega), if_neg (by omega)]) k hk
  have e : y k = 1 := by show (if k < k then _ else if k = k then (1 : Rat) else 0) = 1; rw [if_neg (by omega), if_pos rfl]
  rw [e] at this
  exact absurd this (by decide)
theorem swp_unt {a : Mat} {m k t : Nat} (hk : k ≤ t) (ht : t < m) (hu : Unt a m k) : Unt (swp a k t) m k := fun i hi j hj => by
  unfold swp
  by_cases h1 : i = t
  · rw [if_pos h1, hu k (by omega) j hj, if_neg (by omega), if_neg (by omega)]
  · rw [if_neg h1]
    by_cases h2 : i = k
    · rw [if_pos h2, hu t ht j hj, if_neg (by omega), if_neg (by omega)]
    · rw [if_neg h2]; exact hu i hi j hj
theorem stp_unt {a : Mat} {m k : Nat} (hk : k < m) (h0 : a k k ≠ 0) (hu : Unt a m k) : Unt (stp a k) m (k + 1) := fun i hi j hj => by
  unfold stp
  by_cases h1 : i = k
  · rw [if_pos h1]
    by_cases h2 : j = k
    · rw [h2, if_pos h1]; grind
    · rw [hu k hk j (by omega), if_neg (by omega), if_neg (by omega)]; grind
  · rw [if_neg h1]
    by_cases h2 : j = k
    · rw [h2, if_neg h1]; grind
    · rw [hu k hk j (by omega), if_neg (by omega), hu i hi j (by omega)]; grind
theorem unt_end {a : Mat} {m : Nat} (hu : Unt a m m) : Nul a m (fun j => if j < m then a j m else -1) := fun i hi => by
  have e : sm (m + 1) (fun j => a i j * (if j < m then a j m else -1)) = sm (m + 1) (fun j => (if j = i then a i m else 0) + (if j = m then - a i m else 0)) := sm_congr fun j hj => by
    by_cases j1 : j < m
    · rw [if_pos j1, hu i hi j j1, if_neg (by omega : ¬ j = m)]
      by_cases j2 : i = j
      · subst j2; rw [if_pos rfl, if_pos rfl]; grind
      · rw [if_neg j2, if_neg (by omega)]; grind
    · have : j = m := by omega
      subst this
      rw [if_neg j1, if_neg (by omega : ¬ j = i), if_pos rfl]; grind
  rw [e, sm_add, sm_one (k := i) (by omega) (fun j _ hj => by rw [if_neg hj]), sm_one (k := m) (by omega) (fun j _ hj => by rw [if_neg hj]), if_pos rfl, if_pos rfl]; grind
theorem nul_end {a : Mat} {m : Nat} {x : Nat → Rat} (h : Nul a m (fun j => if j < m then x j else -1)) : ∀ i, i < m → sm m (fun j => a i j * x j) = a i m := fun i hi => by
  have := h i hi
  have e : sm m (fun j => a i j * x j) + a i m * (-1) = 0 := by
    have e1 : sm (m + 1) (fun j => a i j * (if j < m then x j else -1)) = sm m (fun j => a i j * (if j < m then x j else -1)) + a i m * (if m < m then x m else -1) := rfl
    rw [e1, if_neg (by omega), sm_congr (g := fun j => a i j * x j) (fun j hj => by rw [if_pos hj])] at this
    exact this
  grind

/-! ### plans -/
abbrev Room := Nat × Nat × Rat
def net : List Room → (Nat → Rat) → Nat → Rat
  | [], _, _ => 0
  | r :: rs, u, b => (if b = r.1 then r.2.2 * (u r.1 - u r.2.1) else 0) + (if b = r.2.1 then r.2.2 * (u r.2.1 - u r.1) else 0) + net rs u b
def en : List Room → (Nat → Rat) → (Nat → Rat) → Rat
  | [], _, _ => 0
  | r :: rs, u, g => r.2.2 * (u r.1 - u r.2.1) * (g r.1 - g r.2.1) + en rs u g
def Lap : List Room → Nat → Nat → Rat
  | [], _, _ => 0
  | r :: rs, b, c => (if b = r.1 then (if c = r.1 then r.2.2 else if c = r.2.1 then - r.2.2 else 0) else if b = r.2.1 then (if c = r.2.1 then r.2.2 else if c = r.1 then - r.2.2 else 0) else 0) + Lap rs b c
def In (n : Nat) (rs : List Room) : Prop := ∀ r ∈ rs, r.1 < n ∧ r.2.1 < n ∧ r.1 ≠ r.2.1 ∧ 0 < r.2.2
theorem sm_pick {n k : Nat} (hk : k < n) (f : Nat → Rat) : sm n (fun i => if i = k then f i else 0) = f k := by
  rw [sm_one hk (fun i _ hi => by rw [if_neg hi]), if_pos rfl]
theorem parts {n : Nat} (u g : Nat → Rat) : ∀ {rs : List Room}, In n rs → sm n (fun b => g b * net rs u b) = en rs u g
  | [], _ => sm_zero fun i _ => by show g i * 0 = 0; grind
  | r :: rs, h => by
    obtain ⟨h1, h2, h3, h4⟩ := h r List.mem_cons_self
    have ih := parts u g (rs := rs) fun z hz => h z (List.mem_cons_of_mem _ hz)
    show _ = r.2.2 * (u r.1 - u r.2.1) * (g r.1 - g r.2.1) + en rs u g
    have e : sm n (fun b => g b * net (r :: rs) u b) = sm n (fun b => (if b = r.1 then g b * (r.2.2 * (u r.1 - u r.2.1)) else 0) + ((if b = r.2.1 then g b * (r.2.2 * (u r.2.1 - u r.1)) else 0) + g b * net rs u b)) := sm_congr fun b _ => by
      show g b * ((if b = r.1 then r.2.2 * (u r.1 - u r.2.1) else 0) + (if b = r.2.1 then r.2.2 * (u r.2.1 - u r.1) else 0) + net rs u b) = _
      split <;> split <;> grind
    rw [e, sm_add, sm_add, sm_pick h1, sm_pick h2, ih]; grind
theorem net_lap {n : Nat} (u : Nat → Rat) (b : Nat) : ∀ {rs : List Room}, In n rs → net rs u b = sm n (fun c => Lap rs b c * u c)
  | [], _ => (sm_zero fun i _ => by show 0 * u i = 0; grind).symm
  | r :: rs, h => by
    obtain ⟨h1, h2, h3, h4⟩ := h r List.mem_cons_self
    have ih := net_lap u b (rs := rs) fun z hz => h z (List.mem_cons_of_mem _ hz)
    show (if b = r.1 then r.2.2 * (u r.1 - u r.2.1) else 0) + (if b = r.2.1 then r.2.2 * (u r.2.1 - u r.1) else 0) + net rs u b = _
    rw [ih]
    have e : sm n (fun c => Lap (r :: rs) b c * u c) = sm n (fun c => (if b = r.1 then (if c = r.1 then r.2.2 else if c = r.2.1 then - r.2.2 else 0) else if b = r.2.1 then (if c = r.2.1 then r.2.2 else if c = r.1 then - r.2.2 else 0) else 0) * u c) + sm n (fun c => Lap rs b c * u c) := by
      rw [← sm_add]
      refine sm_congr fun c _ => ?_
      show ((if b = r.1 then (if c = r.1 then r.2.2 else if c = r.2.1 then - r.2.2 else 0) else if b = r.2.1 then (if c = r.2.1 then r.2.2 else if c = r.1 then - r.2.2 else 0) else 0) + Lap rs b c) * u c = _
      grind
    rw [e]
    congr 1
    by_cases q1 : b = r.1
    · rw [if_pos q1, if_neg (by omega : ¬ b = r.2.1)]
      rw [sm_congr (g := fun c => (if c = r.1 then r.2.2 * u c else 0) + (if c = r.2.1 then (- r.2.2) * u c else 0)) fun c _ => by
        simp only [if_pos q1]
        by_cases c1 : c = r.1
        · rw [if_pos c1, if_pos c1, if_neg (by omega)]; grind
        · rw [if_neg c1, if_neg c1]; split <;> grind]
      rw [sm_add, sm_pick h1, sm_pick h2]; grind
    · by_cases q2 : b = r.2.1
      · rw [if_neg q1, if_pos q2]
        rw [sm_congr (g := fun c => (if c = r.2.1 then r.2.2 * u c else 0) + (if c = r.1 then (- r.2.2) * u c else 0)) fun c _ => by
          simp only [if_neg q1, if_pos q2]
          by_cases c1 : c = r.2.1
          · rw [if_pos c1, if_pos c1, if_neg (by omega)]; grind
          · rw [if_neg c1, if_neg c1]; split <;> grind]
        rw [sm_add, sm_pick h2, sm_pick h1]; grind
      · rw [if_neg q1, if_neg q2, sm_zero fun c _ => by simp only [if_neg q1, if_neg q2]; grind]; grind
/-- from x one comes to y by rooms -/
inductive Rch (rs : List Room) : Nat → Nat → Prop
  | refl (x : Nat) : Rch rs x x
  | down {x : Nat} {r : Room} : Rch rs x r.1 → r ∈ rs → Rch rs x r.2.1
  | up {x : Nat} {r : Room} : Rch rs x r.2.1 → r ∈ rs → Rch rs x r.1
theorem Rch.eq {rs : List Room} {u : Nat → Rat} (h : ∀ r ∈ rs, u r.1 = u r.2.1) {x y : Nat} (c : Rch rs x y) : u x = u y := by
  induction c with
  | refl => rfl
  | down _ hr ih => rw [ih, h _ hr]
  | up _ hr ih => rw [ih, h _ hr]
structure Plan (n : Nat) (rs : List Room) : Prop where
  two : 2 ≤ n
  six : n ≤ 6
  one : 1 ≤ rs.length
  few : rs.length ≤ 15
  inn : In n rs
  con : ∀ b, b < n → Rch rs 0 b
theorem sq_nonneg (x : Rat) : 0 ≤ x * x := by
  rcases Rat.le_total (a := 0) (b := x) with h | h
  · exact Rat.mul_nonneg h h
  · have : 0 ≤ (-x) * (-x) := Rat.mul_nonneg (by grind) (by grind)
    grind
theorem en_nonneg (u : Nat → Rat) : ∀ {rs : List Room} {n : Nat}, In n rs → 0 ≤ en rs u u
  | [], _, _ => by show (0 : Rat) ≤ 0; grind
  | r :: rs, n, h => by
    have ih := en_nonneg u (rs := rs) fun z hz => h z (List.mem_cons_of_mem _ hz)
    obtain ⟨_, _, _, h4⟩ := h r List.mem_cons_self
    show 0 ≤ r.2.2 * (u r.1 - u r.2.1) * (u r.1 - u r.2.1) + en rs u u
    have := Rat.mul_nonneg (Rat.le_of_lt h4) (sq_nonneg (u r.1 - u r.2.1))
    grind
theorem en_zero (u : Nat → Rat) : ∀ {rs : List Room} {n : Nat}, In n rs → en rs u u = 0 → ∀ r ∈ rs, u r.1 = u r.2.1
  | [], _, _, _, r, hr => nomatch hr
  | r :: rs, n, h, e, z, hz => by
    have h' : In n rs := fun z hz => h z (List.mem_cons_of_mem _ hz)
    have ih := en_nonneg u h'
    obtain ⟨_, _, _, h4⟩ := h r List.mem_cons_self
    have e' : r.2.2 * (u r.1 - u r.2.1) * (u r.1 - u r.2.1) + en rs u u = 0 := e
    have h5 := Rat.mul_nonneg (Rat.le_of_lt h4) (sq_nonneg (u r.1 - u r.2.1))
    have e1 : en rs u u = 0 := by grind
    have e2 : r.2.2 * ((u r.1 - u r.2.1) * (u r.1 - u r.2.1)) = 0 := by grind
    rcases List.mem_cons.mp hz with q | q
    · subst q
      rcases Rat.mul_eq_zero.mp e2 with q | q
      · rw [q] at h4; exact absurd h4 (by decide)
      · rcases Rat.mul_eq_zero.mp q with q | q <;> grind
    · exact en_zero u h' e1 z q
theorem uniq0 {n : Nat} {rs : List Room} {w : Nat → Rat} {fx : Nat → Prop} (h : Plan n rs) (f : Nat) (hf : f < n) (hfx : fx f) (h1 : ∀ b, b < n → fx b → w b = 0) (h2 : ∀ b, b < n → ¬ fx b → net rs w b = 0) : ∀ b, b < n → w b = 0 := by
  have e : en rs w w = 0 := by
    rw [← parts w w h.inn]
    refine sm_zero fun b hb => ?_
    rcases Classical.em (fx b) with q | q
    · rw [h1 b hb q]; grind
    · rw [h2 b hb q]; grind
  have hd := en_zero w h.inn e
  intro b hb
  rw [← (h.con b hb).eq hd, (h.con f hf).eq hd]
  exact h1 f hf hfx
theorem net_sub (u v : Nat → Rat) (b : Nat) : ∀ rs : List Room, net rs (fun c => u c - v c) b = net rs u b - net rs v b
  | [] => by show (0 : Rat) = 0 - 0; grind
  | r :: rs => by
    show (if b = r.1 then r.2.2 * ((u r.1 - v r.1) - (u r.2.1 - v r.2.1)) else 0) + (if b = r.2.1 then r.2.2 * ((u r.2.1 - v r.2.1) - (u r.1 - v r.1)) else 0) + net rs (fun c => u c - v c) b = ((if b = r.1 then r.2.2 * (u r.1 - u r.2.1) else 0) + (if b = r.2.1 then r.2.2 * (u r.2.1 - u r.1) else 0) + net rs u b) - ((if b = r.1 then r.2.2 * (v r.1 - v r.2.1) else 0) + (if b = r.2.1 then r.2.2 * (v r.2.1 - v r.1) else 0) + net rs v b)
    rw [net_sub u v b rs]
    split <;> split <;> grind
theorem uniq {n : Nat} {rs : List Room} {u v : Nat → Rat} {fx : Nat → Prop} (h : Plan n rs) (f : Nat) (hf : f < n) (hfx : fx f) (h1 : ∀ b, b < n → fx b → u b = v b) (h2 : ∀ b, b < n → ¬ fx b → net rs u b = net rs v b) : ∀ b, b < n → u b = v b := fun b hb => by
  have := uniq0 (w := fun c => u c - v c) h f hf hfx (fun b hb q => by rw [h1 b hb q]; grind) (fun b hb q => by rw [net_sub, h2 b hb q]; grind) b hb
  grind

end QP
set_option Elab.async false
set_option linter.all false
set_option maxRecDepth 100000
set_option maxHeartbeats 1000000
namespace QP
open PySem PySem.Spec PyProof.Rows L2 QL
/-! ### loops of the mirrors -/
theorem lcM_pure {α : Type} {vs : List Nat} {ρ0 : Ro} {tg : D → Ro → Option Ro} {c : M Bool} {m : M D} {g h : α → D} {p : α → Bool} (τ : α → Ro) : ∀ (as : List α) (acc : List D),
    (∀ a ∈ as, tg (g a) ρ0 = some (τ a) ∧ c (τ a) = some (p a, τ a) ∧ (p a = true → m (τ a) = some (h a, τ a)) ∧ wipeR (τ a) vs = ρ0) → acc.length + as.length ≤ 1000000 →
    lcM vs tg c m (as.map g) ρ0 acc = some (acc ++ (as.filter p).map h, ρ0)
  | [], acc, _, _ => by simp [lcM]
  | a :: as, acc, hm, hl => by
    obtain ⟨h1, h2, h3, h4⟩ := hm a List.mem_cons_self
    have hlt : acc.length < 1000000 := by simp at hl; omega
    rw [List.map_cons]
    unfold lcM
    rw [h1, Option.bind_some, h2, Option.bind_some]
    by_cases q : p a = true
    · have ih := lcM_pure (p := p) (h := h) (g := g) τ as (acc ++ [h a]) (fun b hb => hm b (List.mem_cons_of_mem _ hb)) (by simp at hl ⊢; omega)
      simp only [if_pos q, h3 q, Option.bind_some, if_pos hlt, h4, ih, List.filter_cons_of_pos q, List.map_cons, List.append_assoc, List.cons_append, List.nil_append]
    · have ih := lcM_pure (p := p) (h := h) (g := g) τ as acc (fun b hb => hm b (List.mem_cons_of_mem _ hb)) (by simp at hl ⊢; omega)
      simp only [if_neg q, h4, ih, List.filter_cons_of_neg q]
/-- a comprehension that changes no slot -/
theorem oLcG {α : Type} {vs : List Nat} {ρ : Ro} {it : M (List D)} {tg : D → Ro → Option Ro} {c : M Bool} {m : M D} (g h : α → D) (p : α → Bool) (τ : α → Ro) (as : List α) (hit : it ρ = some (as.map g, ρ)) (hl : as.length ≤ 1000000)
    (hm : ∀ a ∈ as, tg (g a) (wipeR ρ vs) = some (τ a) ∧ c (τ a) = some (p a, τ a) ∧ (p a = true → m (τ a) = some (h a, τ a)) ∧ wipeR (τ a) vs = wipeR ρ vs) (hb : backR ρ (wipeR (wipeR ρ vs) vs) vs = ρ) :
    oLc vs it tg c m ρ = some ((as.filter p).map h, ρ) := by
  have key := lcM_pure (ρ0 := wipeR ρ vs) (p := p) (h := h) τ as [] hm (by simpa using hl)
  unfold oLc
  rw [hit, Option.bind_some, key, Option.map_some, List.nil_append, hb]
theorem eLcG {α : Type} {vs : List Nat} {ρ : Ro} {it : M (List D)} {tg : D → Ro → Option Ro} {c : M Bool} {m : M D} (g h : α → D) (p : α → Bool) (τ : α → Ro) (as : List α) (hit : it ρ = some (as.map g, ρ)) (hl : as.length ≤ 1000000)
    (hm : ∀ a ∈ as, tg (g a) (wipeR ρ vs) = some (τ a) ∧ c (τ a) = some (p a, τ a) ∧ (p a = true → m (τ a) = some (h a, τ a)) ∧ wipeR (τ a) vs = wipeR ρ vs) (hb : backR ρ (wipeR (wipeR ρ vs) vs) vs = ρ) :
    eLc vs it tg c m ρ = some (.list ((as.filter p).map h), ρ) := by
  unfold eLc
  rw [oLcG g h p τ as hit hl hm hb]; rfl
theorem filter_true {α : Type} : ∀ as : List α, as.filter (fun _ => true) = as
  | [] => rfl
  | a :: as => by rw [List.filter_cons_of_pos rfl, filter_true as]
/-- without a condition -/
theorem eLcT {α : Type} {vs : List Nat} {ρ : Ro} {it : M (List D)} {tg : D → Ro → Option Ro} {m : M D} (g h : α → D) (τ : α → Ro) (as : List α) (hit : it ρ = some (as.map g, ρ)) (hl : as.length ≤ 1000000)
    (hm : ∀ a ∈ as, tg (g a) (wipeR ρ vs) = some (τ a) ∧ m (τ a) = some (h a, τ a) ∧ wipeR (τ a) vs = wipeR ρ vs) (hb : backR ρ (wipeR (wipeR ρ vs) vs) vs = ρ) :
    eLc vs it tg cTrue m ρ = some (.list (as.map h), ρ) := by
  have := eLcG (c := cTrue) g h (fun _ => true) τ as hit hl (fun a ha => ⟨(hm a ha).1, rfl, fun _ => (hm a ha).2.1, (hm a ha).2.2⟩) hb
  rw [filter_true] at this
  exact this
theorem forM_inv {α : Type} {g : D → Ro → Option Ro} {b : MS} (f : α → D) : ∀ (as : List α) (P : Nat → Ro → Prop) (ρ : Ro), (∀ (i : Nat) (a : α) (ρ : Ro), as[i]? = some a → P i ρ → ∃ ρ1 ρ2, g (f a) ρ = some ρ1 ∧ b ρ1 = some (.nx, ρ2) ∧ P (i + 1) ρ2) → P 0 ρ →
    ∃ ρ', QL.forM g b (as.map f) ρ = some (.nx, ρ') ∧ P as.length ρ'
  | [], P, ρ, _, h0 => ⟨ρ, rfl, h0⟩
  | a :: as, P, ρ, h, h0 => by
    obtain ⟨ρ1, ρ2, e1, e2, p1⟩ := h 0 a ρ rfl h0
    obtain ⟨ρ', e, p⟩ := forM_inv f as (fun i => P (i + 1)) ρ2 (fun i a ρ hi hp => h (i + 1) a ρ (by simpa using hi) hp) p1
    refine ⟨ρ', ?_, p⟩
    rw [List.map_cons]
    unfold QL.forM
    rw [e1, Option.bind_some, e2, Option.bind_some]
    exact e
/-! ### rows of fractions -/
def rowL (n : Nat) (f : Nat → Rat) : List D := (List.range n).map fun j => fr (f j)
def rowD (n : Nat) (f : Nat → Rat) : D := .list (rowL n f)
def matL (m : Nat) (a : Mat) : List D := (List.range m).map fun i => rowD (m + 1) (a i)
theorem atI_range {α : Type} (f : Nat → α) {n j : Nat} (h : j < n) : atI ((List.range n).map f) (j : Int) = some (f j) := atI_nat (j := j) (by rw [List.getElem?_map, List.getElem?_range h]; rfl)
theorem atI_row {n j : Nat} (f : Nat → Rat) (h : j < n) : atI (rowL n f) (j : Int) = some (fr (f j)) := atI_range _ h
theorem atI_mat {m i : Nat} (a : Mat) (h : i < m) : atI (matL m a) (i : Int) = some (rowD (m + 1) (a i)) := atI_range _ h
theorem rowL_congr {n : Nat} {f g : Nat → Rat} (h : ∀ j, j < n → f j = g j) : rowL n f = rowL n g := List.map_congr_left fun j hj => by rw [h j (List.mem_range.mp hj)]
theorem shaped_fr (x : Rat) : SeqAt.shaped (fr x) = true := rfl
theorem fr_inj {x y : Rat} (h : fr x = fr y) : x = y := by
  unfold fr at h
  have h1 := PyData.tuple.inj h
  simp only [List.cons.injEq, PyData.int.injEq, and_true] at h1
  exact Rat.ext h1.1 (by exact_mod_cast h1.2)
theorem eqv_fr (x y : Rat) : PyData.eqv (fr x) (fr y) = decide (x = y) := by
  have e : PyData.eqv (fr x) (fr y) = (x.num == y.num && ((x.den : Int) == y.den && true)) := rfl
  rw [e]
  by_cases q : x = y
  · subst q; simp
  · rw [decide_eq_false q]
    have : ¬ (x.num = y.num ∧ x.den = y.den) := fun h => q (Rat.ext h.1 h.2)
    by_cases q1 : x.num = y.num
    · have q2 : ¬ x.den = y.den := fun z => this ⟨q1, z⟩
      simp [q1]; omega
    · simp [q1]
theorem dEq_fr (x y : Rat) : dEq (fr x) (fr y) = some (.bool (decide (x = y))) := by
  unfold dEq
  rw [if_pos ⟨shaped_fr x, shaped_fr y⟩, eqv_fr]
theorem dNe_fr (x y : Rat) : dNe (fr x) (fr y) = some (.bool (!decide (x = y))) := by
  unfold dNe
  rw [if_pos ⟨shaped_fr x, shaped_fr y⟩, eqv_fr]
theorem fr0 : fr 0 = .tuple [.int 0, .int 1] := rfl
theorem fr1 : fr 1 = .tuple [.int 1, .int 1] := rfl
theorem rng1_def (j : Int) : rng1 [.int j] = if j.natAbs < 2 ^ 62 then some (intsD 0 j.toNat) else none := by rw [rng1]
theorem rng2_def (i j : Int) : rng2 [.int i, .int j] = if i.natAbs < 2 ^ 62 ∧ j.natAbs < 2 ^ 62 then some (intsD i (j - i).toNat) else none := by rw [rng2]
theorem rng1_nat {n : Nat} (h : n < 2 ^ 62) : rng1 [.int n] = some ((List.range n).map fun (i : Nat) => .int i) := by
  rw [rng1_def, if_pos (by omega)]
  simp [intsD]
theorem rng2_nat {k n : Nat} (h : n < 2 ^ 62) (hk : k ≤ n) : rng2 [.int k, .int n] = some ((List.range (n - k)).map fun (i : Nat) => .int ((k + i : Nat) : Int)) := by
  rw [rng2_def, if_pos (by omega)]
  have : ((n : Int) - k).toNat = n - k := by omega
  rw [this]
  unfold intsD
  congr 1

end QP
set_option Elab.async false
set_option linter.all false
set_option maxRecDepth 100000
set_option maxHeartbeats 1000000
namespace QP
open PySem PySem.Spec PyProof.Rows L2 QL
/-! ### sizes of rows -/
def SzM (s : Nat) (a : Mat) (m : Nat) : Prop := ∃ (d : Int) (v : Nat → Nat → Int), d ≠ 0 ∧ d.natAbs < 2 ^ s ∧ ∀ i, i < m → ∀ j, j < m + 1 → a i j = (v i j : Rat) / (d : Rat) ∧ (v i j).natAbs < 2 ^ s
theorem SzM.row {s : Nat} {a : Mat} {m : Nat} (h : SzM s a m) (i : Nat) (hi : i < m) : ∃ (d : Int) (v : Nat → Int), d ≠ 0 ∧ d.natAbs < 2 ^ s ∧ ∀ j, j < m + 1 → a i j = (v j : Rat) / (d : Rat) ∧ (v j).natAbs < 2 ^ s := by
  obtain ⟨d, v, hd, h2, hv⟩ := h
  exact ⟨d, v i, hd, h2, hv i hi⟩
theorem Sz.frac {s : Nat} {v d : Int} (hd : d ≠ 0) (h1 : v.natAbs < 2 ^ s) (h2 : d.natAbs < 2 ^ s) : Sz s ((v : Rat) / (d : Rat)) := by
  rw [← Rat.divInt_eq_div]
  have hd' : d.natAbs ≠ 0 := by omega
  have e : Rat.divInt v d = Rat.normalize (d.sign * v) d.natAbs hd' := by
    rw [Rat.normalize_eq_mkRat, ← Rat.divInt_ofNat]
    have : (d.natAbs : Int) = d.sign * d := by rw [Int.sign_mul_self]
    rw [this, Rat.divInt_mul_left]
    intro z
    exact hd (Int.sign_eq_zero_iff_zero.mp z)
  rw [e]
  refine Sz.normalize _ ?_ h2
  rw [Int.natAbs_mul, Int.natAbs_sign_of_ne_zero hd, Nat.one_mul]
  exact h1
theorem SzM.sz {s : Nat} {a : Mat} {m i j : Nat} (h : SzM s a m) (hi : i < m) (hj : j < m + 1) : Sz s (a i j) := by
  obtain ⟨d, v, hd, h2, hv⟩ := h.row i hi
  rw [(hv j hj).1]
  exact Sz.frac hd (hv j hj).2 h2
theorem SzM.swp {s : Nat} {a : Mat} {m p q : Nat} (h : SzM s a m) (hp : p < m) (hq : q < m) : SzM s (swp a p q) m := by
  obtain ⟨d, v, hd, h2, hv⟩ := h
  refine ⟨d, fun i => if i = q then v p else if i = p then v q else v i, hd, h2, fun i hi => ?_⟩
  unfold QP.swp
  by_cases h1 : i = q
  · simp only [if_pos h1]; exact hv p hp
  · by_cases h2 : i = p
    · simp only [if_neg h1, if_pos h2]; exact hv q hq
    · simp only [if_neg h1, if_neg h2]; exact hv i hi
theorem int_ne {d : Int} (h : d ≠ 0) : (d : Rat) ≠ 0 := by exact_mod_cast h
theorem SzM.stp {s : Nat} {a : Mat} {m p : Nat} (h : SzM s a m) (hp : p < m) (h0 : a p p ≠ 0) : SzM (2 * s + 1) (stp a p) m := by
  obtain ⟨d, v, hd, h2, hv⟩ := h
  have hvp : v p p ≠ 0 := fun z => h0 (by rw [(hv p hp p (by omega)).1, z]; grind)
  have r1 := int_ne hd
  have r2 := int_ne hvp
  have hpw : 2 ^ (s + s) ≤ 2 ^ (2 * s + 1) := Nat.pow_le_pow_right (by decide) (by omega)
  refine ⟨d * v p p, fun i j => if i = p then v p j * d else v i j * v p p - v i p * v p j, Int.mul_ne_zero hd hvp, ?_, fun i hi j hj => ?_⟩
  · rw [Int.natAbs_mul]
    exact Nat.lt_of_lt_of_le (pow_mul_lt h2 (hv p hp p (by omega)).2) hpw
  · unfold QP.stp
    by_cases q : i = p
    · simp only [if_pos q]
      refine ⟨?_, ?_⟩
      · rw [(hv p hp j hj).1, (hv p hp p (by omega)).1, Rat.intCast_mul, Rat.intCast_mul]
        grind
      · rw [Int.natAbs_mul]
        exact Nat.lt_of_lt_of_le (pow_mul_lt (hv p hp j hj).2 h2) hpw
    · simp only [if_neg q]
      refine ⟨?_, ?_⟩
      · rw [(hv i hi j hj).1, (hv i hi p (by omega)).1, (hv p hp j hj).1, (hv p hp p (by omega)).1]
        rw [Rat.intCast_sub, Rat.intCast_mul, Rat.intCast_mul, Rat.intCast_mul]
        grind
      · have b1 := pow_mul_lt (hv i hi j hj).2 (hv p hp p (by omega)).2
        have b2 := pow_mul_lt (hv i hi p (by omega)).2 (hv p hp j hj).2
        have b3 : (v i j * v p p - v i p * v p j).natAbs ≤ (v i j * v p p).natAbs + (v i p * v p j).natAbs := Int.natAbs_sub_le _ _
        rw [Int.natAbs_mul, Int.natAbs_mul] at b3
        have e2 : 2 ^ (2 * s + 1) = 2 ^ (s + s) + 2 ^ (s + s) := by rw [Nat.pow_succ, show 2 * s = s + s by omega]; omega
        omega
def grw (s : Nat) : Nat → Nat
  | 0 => s
  | k + 1 => 2 * grw s k + 1
theorem F_minus_eq {n m : Nat} {x y : Rat} (hx : Sz n x) (hy : Sz m y) (h : n + m ≤ 9000) : F_minus [fr x, fr y] = some (fr (x - y)) := by
  have e : F_less [fr y] = some (fr (-y)) := by
    unfold F_less runF B_less fr
    simp only [sSeq, sIf, sNil, sAsg, sRet, sDrop, cV, cAnd, cOr, cNot, cTrue, eOp2, eOp1, eVar, eC, eApp, aCons, aNil, eIf, eAnd, eOr, eNot, eChain, eNeg, asB, dLt, dLe, dGt, dGe, dSub, dIx, dAbs, dMin, dMax, dLen, dList, dTuple, mkTup, mkLst, gSet, QL.gTup, gTupF, unTup, sPar2, xDat, xOwn, xNil, noScr, sOwn, oLst, iSeq, asSeq, iApp, endOf, List.map_cons, List.map_nil, List.length_cons, List.length_nil, List.length_set, List.replicate, List.cons_append, List.nil_append, List.getElem?_cons_zero, List.getElem?_cons_succ, List.getElem?_nil, Option.bind_some, Option.bind_none, Option.map_some, Option.map_none, List.set_cons_zero, List.set_cons_succ, List.set_nil, Bool.false_eq_true, if_false, if_true, ne_eq, not_false_eq_true, not_true_eq_false, and_self, and_true, true_and, Bool.not_true, Bool.not_false, Bool.and_true, Bool.true_and, Nat.reduceAdd, Nat.reduceSub, Nat.reduceLeDiff, Nat.reduceLT, Nat.reduceEqDiff, Nat.lt_irrefl, decide_true, decide_false, isa1, isa2, isa3, isa4, isa5, isa6, isa7, isa8, atI_0, atI_1, atI_2, atI_3, Option.getD_some, ownL, scrAt]
    rw [Rat.neg_num, Rat.neg_den, show (0 : Int) - y.num = - y.num by omega]
  have key := F_plus_eq hx hy.neg h
  rw [← Rat.sub_eq_add_neg] at key
  unfold F_minus runF B_minus
  simp only [sSeq, sIf, sNil, sAsg, sRet, sDrop, cV, cAnd, cOr, cNot, cTrue, eOp2, eOp1, eVar, eC, eApp, aCons, aNil, eIf, eAnd, eOr, eNot, eChain, eNeg, asB, dLt, dLe, dGt, dGe, dSub, dIx, dAbs, dMin, dMax, dLen, dList, dTuple, mkTup, mkLst, gSet, QL.gTup, gTupF, unTup, sPar2, xDat, xOwn, xNil, noScr, sOwn, oLst, iSeq, asSeq, iApp, endOf, List.map_cons, List.map_nil, List.length_cons, List.length_nil, List.length_set, List.replicate, List.cons_append, List.nil_append, List.getElem?_cons_zero, List.getElem?_cons_succ, List.getElem?_nil, Option.bind_some, Option.bind_none, Option.map_some, Option.map_none, List.set_cons_zero, List.set_cons_succ, List.set_nil, Bool.false_eq_true, if_false, if_true, ne_eq, not_false_eq_true, not_true_eq_false, and_self, and_true, true_and, Bool.not_true, Bool.not_false, Bool.and_true, Bool.true_and, Nat.reduceAdd, Nat.reduceSub, Nat.reduceLeDiff, Nat.reduceLT, Nat.reduceEqDiff, Nat.lt_irrefl, decide_true, decide_false, isa1, isa2, isa3, isa4, isa5, isa6, isa7, isa8, atI_0, atI_1, atI_2, atI_3, Option.getD_some, ownL, scrAt, e, key]

end QP
set_option Elab.async false
set_option linter.all false
set_option maxRecDepth 100000
set_option maxHeartbeats 1000000
namespace QP
open PySem PySem.Spec PyProof.Rows L2 QL
theorem solved_at {m k : Nat} (a : Mat) (hk : k < m) (hm : m ≤ 6) (h : ∃ t, k ≤ t ∧ t < m ∧ a t k ≠ 0) (s3 s4 s5 s6 s7 s8 s9 s10 : Sl) (h3 : s3 = .un ∨ ∃ d, s3 = .dat d) :
    ∃ t, k ≤ t ∧ t < m ∧ a t k ≠ 0 ∧ (sAsg (eOp2 dIx (eLc [3] (iApp rng2 (aCons (eVar 2) (aCons (eVar 1) aNil))) (gSet 3) (cV (eOp2 dNe (eOp2 dIx (eIxO 0 (eVar 3)) (eVar 2)) (eC (.tuple [(.int 0), (.int 1)])))) (eVar 3)) (eC (.int 0))) (gSet 3)) [.own (.lst (matL m a)), .dat (.int m), .dat (.int k), s3, s4, s5, s6, s7, s8, s9, s10] = some (.nx, [.own (.lst (matL m a)), .dat (.int m), .dat (.int k), .dat (.int t), s4, s5, s6, s7, s8, s9, s10]) := by
  have key := eLcG (vs := [3]) (ρ := [.own (.lst (matL m a)), .dat (.int m), .dat (.int k), s3, s4, s5, s6, s7, s8, s9, s10]) (it := iApp rng2 (aCons (eVar 2) (aCons (eVar 1) aNil))) (tg := gSet 3) (c := cV (eOp2 dNe (eOp2 dIx (eIxO 0 (eVar 3)) (eVar 2)) (eC (.tuple [(.int 0), (.int 1)])))) (m := eVar 3)
    (fun (i : Nat) => .int ((k + i : Nat) : Int)) (fun (i : Nat) => .int ((k + i : Nat) : Int)) (fun i => !decide (a (k + i) k = 0)) (fun i => [.own (.lst (matL m a)), .dat (.int m), .dat (.int k), .dat (.int ((k + i : Nat) : Int)), s4, s5, s6, s7, s8, s9, s10]) (List.range (m - k))
    (by simp only [sSeq, sIf, sNil, sAsg, sRet, sDrop, cV, cAnd, cOr, cNot, cTrue, eOp2, eOp1, eVar, eC, eApp, aCons, aNil, eIf, eAnd, eOr, eNot, eChain, eNeg, asB, dLt, dLe, dGt, dGe, dSub, dIx, dAbs, dMin, dMax, dLen, dList, dTuple, mkTup, mkLst, gSet, QL.gTup, gTupF, unTup, sPar2, xDat, xOwn, xNil, noScr, sOwn, oLst, iSeq, asSeq, iApp, endOf, List.map_cons, List.map_nil, List.length_cons, List.length_nil, List.length_set, List.replicate, List.cons_append, List.nil_append, List.getElem?_cons_zero, List.getElem?_cons_succ, List.getElem?_nil, Option.bind_some, Option.bind_none, Option.map_some, Option.map_none, List.set_cons_zero, List.set_cons_succ, List.set_nil, Bool.false_eq_true, if_false, if_true, ne_eq, not_false_eq_true, not_true_eq_false, and_self, and_true, true_and, Bool.not_true, Bool.not_false, Bool.and_true, Bool.true_and, Nat.reduceAdd, Nat.reduceSub, Nat.reduceLeDiff, Nat.reduceLT, Nat.reduceEqDiff, Nat.lt_irrefl, decide_true, decide_false, isa1, isa2, isa3, isa4, isa5, isa6, isa7, isa8, atI_0, atI_1, atI_2, atI_3, Option.getD_some, ownL, scrAt, rng2_nat (k := k) (n := m) (by omega) (by omega)]) (by simp; omega)
    (fun i hi => by
      have hi' : k + i < m := by have := List.mem_range.mp hi; omega
      refine ⟨rfl, ?_, fun _ => by simp only [sSeq, sIf, sNil, sAsg, sRet, sDrop, cV, cAnd, cOr, cNot, cTrue, eOp2, eOp1, eVar, eC, eApp, aCons, aNil, eIf, eAnd, eOr, eNot, eChain, eNeg, asB, dLt, dLe, dGt, dGe, dSub, dIx, dAbs, dMin, dMax, dLen, dList, dTuple, mkTup, mkLst, gSet, QL.gTup, gTupF, unTup, sPar2, xDat, xOwn, xNil, noScr, sOwn, oLst, iSeq, asSeq, iApp, endOf, List.map_cons, List.map_nil, List.length_cons, List.length_nil, List.length_set, List.replicate, List.cons_append, List.nil_append, List.getElem?_cons_zero, List.getElem?_cons_succ, List.getElem?_nil, Option.bind_some, Option.bind_none, Option.map_some, Option.map_none, List.set_cons_zero, List.set_cons_succ, List.set_nil, Bool.false_eq_true, if_false, if_true, ne_eq, not_false_eq_true, not_true_eq_false, and_self, and_true, true_and, Bool.not_true, Bool.not_false, Bool.and_true, Bool.true_and, Nat.reduceAdd, Nat.reduceSub, Nat.reduceLeDiff, Nat.reduceLT, Nat.reduceEqDiff, Nat.lt_irrefl, decide_true, decide_false, isa1, isa2, isa3, isa4, isa5, isa6, isa7, isa8, atI_0, atI_1, atI_2, atI_3, Option.getD_some, ownL, scrAt], rfl⟩
      simp only [sSeq, sIf, sNil, sAsg, sRet, sDrop, cV, cAnd, cOr, cNot, cTrue, eOp2, eOp1, eVar, eC, eApp, aCons, aNil, eIf, eAnd, eOr, eNot, eChain, eNeg, asB, dLt, dLe, dGt, dGe, dSub, dIx, dAbs, dMin, dMax, dLen, dList, dTuple, mkTup, mkLst, gSet, QL.gTup, gTupF, unTup, sPar2, xDat, xOwn, xNil, noScr, sOwn, oLst, iSeq, asSeq, iApp, endOf, List.map_cons, List.map_nil, List.length_cons, List.length_nil, List.length_set, List.replicate, List.cons_append, List.nil_append, List.getElem?_cons_zero, List.getElem?_cons_succ, List.getElem?_nil, Option.bind_some, Option.bind_none, Option.map_some, Option.map_none, List.set_cons_zero, List.set_cons_succ, List.set_nil, Bool.false_eq_true, if_false, if_true, ne_eq, not_false_eq_true, not_true_eq_false, and_self, and_true, true_and, Bool.not_true, Bool.not_false, Bool.and_true, Bool.true_and, Nat.reduceAdd, Nat.reduceSub, Nat.reduceLeDiff, Nat.reduceLT, Nat.reduceEqDiff, Nat.lt_irrefl, decide_true, decide_false, isa1, isa2, isa3, isa4, isa5, isa6, isa7, isa8, atI_0, atI_1, atI_2, atI_3, Option.getD_some, ownL, scrAt, eIxO, ownL, atI_mat a hi', rowD, atI_row (a (k + i)) (show k < m + 1 by omega), ← fr0, dNe_fr])
    (by rcases h3 with rfl | ⟨d, rfl⟩ <;> rfl)
  obtain ⟨t0, h1, h2, h4⟩ := h
  have hne : (List.range (m - k)).filter (fun i => !decide (a (k + i) k = 0)) ≠ [] := by
    intro z
    have : t0 - k ∈ (List.range (m - k)).filter (fun i => !decide (a (k + i) k = 0)) := by
      rw [List.mem_filter, List.mem_range]
      refine ⟨by omega, ?_⟩
      rw [show k + (t0 - k) = t0 by omega]
      simp [h4]
    rw [z] at this
    cases this
  cases hf : (List.range (m - k)).filter (fun i => !decide (a (k + i) k = 0)) with
  | nil => exact absurd hf hne
  | cons i r =>
    have hm : i ∈ (List.range (m - k)).filter (fun i => !decide (a (k + i) k = 0)) := by rw [hf]; exact List.mem_cons_self
    rw [List.mem_filter, List.mem_range] at hm
    rw [hf, List.map_cons] at key
    refine ⟨k + i, by omega, by omega, by simpa using hm.2, ?_⟩
    simp only [sAsg, eOp2, key, Option.bind_some, eC, dIx, atI_0, Option.map_some, gSet, List.set_cons_succ, List.set_cons_zero]

end QP
set_option Elab.async false
set_option linter.all false
set_option maxRecDepth 100000
set_option maxHeartbeats 1000000
namespace QP
open PySem PySem.Spec PyProof.Rows L2 QL
theorem ixN_at {n k : Nat} (h : k < n) : ixN n (k : Int) = some k := by
  unfold ixN
  simp [h]
theorem set_range {α : Type} (f : Nat → α) (v : α) {n k : Nat} (h : k < n) : ((List.range n).map f).set k v = (List.range n).map fun i => if i = k then v else f i := by
  refine List.ext_getElem? fun j => ?_
  rw [List.getElem?_set, List.getElem?_map, List.getElem?_map]
  by_cases q : k = j
  · subst q
    simp [h]
  · rw [if_neg q]
    by_cases hj : j < n
    · rw [List.getElem?_range hj]; simp; omega
    · rw [List.getElem?_eq_none (by simpa using hj)]; rfl
theorem matL_length (m : Nat) (a : Mat) : (matL m a).length = m := by simp [matL]
theorem rowL_length (n : Nat) (f : Nat → Rat) : (rowL n f).length = n := by simp [rowL]
theorem swap_mat {m k t : Nat} (a : Mat) (hk : k < m) (ht : t < m) : ((matL m a).set k (rowD (m + 1) (a t))).set t (rowD (m + 1) (a k)) = matL m (swp a k t) := by
  unfold matL
  rw [set_range _ _ hk, set_range _ _ ht]
  refine List.map_congr_left fun i _ => ?_
  unfold swp
  by_cases h1 : i = t
  · rw [if_pos h1, if_pos h1]
  · rw [if_neg h1, if_neg h1]
    by_cases h2 : i = k
    · rw [if_pos h2, if_pos h2]
    · rw [if_neg h2, if_neg h2]
theorem solved_swap {m k t : Nat} (a : Mat) (hk : k < m) (ht : t < m) (s4 s5 s6 s7 s8 s9 s10 : Sl) :
    sSwap 0 (eVar 2) (eVar 3) (eApp mkTup (aCons (eIxO 0 (eVar 3)) (aCons (eIxO 0 (eVar 2)) aNil))) [.own (.lst (matL m a)), .dat (.int m), .dat (.int k), .dat (.int t), s4, s5, s6, s7, s8, s9, s10] = some (.nx, [.own (.lst (matL m (swp a k t))), .dat (.int m), .dat (.int k), .dat (.int t), s4, s5, s6, s7, s8, s9, s10]) := by
  simp only [sSwap, gIxO, sSeq, sIf, sNil, sAsg, sRet, sDrop, cV, cAnd, cOr, cNot, cTrue, eOp2, eOp1, eVar, eC, eApp, aCons, aNil, eIf, eAnd, eOr, eNot, eChain, eNeg, asB, dLt, dLe, dGt, dGe, dSub, dIx, dAbs, dMin, dMax, dLen, dList, dTuple, mkTup, mkLst, gSet, QL.gTup, gTupF, unTup, sPar2, xDat, xOwn, xNil, noScr, sOwn, oLst, iSeq, asSeq, iApp, endOf, List.map_cons, List.map_nil, List.length_cons, List.length_nil, List.length_set, List.replicate, List.cons_append, List.nil_append, List.getElem?_cons_zero, List.getElem?_cons_succ, List.getElem?_nil, Option.bind_some, Option.bind_none, Option.map_some, Option.map_none, List.set_cons_zero, List.set_cons_succ, List.set_nil, Bool.false_eq_true, if_false, if_true, ne_eq, not_false_eq_true, not_true_eq_false, and_self, and_true, true_and, Bool.not_true, Bool.not_false, Bool.and_true, Bool.true_and, Nat.reduceAdd, Nat.reduceSub, Nat.reduceLeDiff, Nat.reduceLT, Nat.reduceEqDiff, Nat.lt_irrefl, decide_true, decide_false, isa1, isa2, isa3, isa4, isa5, isa6, isa7, isa8, atI_0, atI_1, atI_2, atI_3, Option.getD_some, ownL, scrAt, eIxO, ownL, atI_mat a hk, atI_mat a ht, ixN_at hk, ixN_at ht, matL_length, List.length_set, swap_mat a hk ht]
theorem solved_head {m k s : Nat} (a : Mat) (hk : k < m) (hm : m ≤ 6) (hs : SzM s a m) (hs2 : s + s ≤ 9000) (h0 : a k k ≠ 0) (s3 s4 s5 s6 s7 s8 s9 s10 : Sl) (h8 : s8 = .un ∨ ∃ d, s8 = .dat d) :
    sAsg (eLc [8] (iSeq (eIxO 0 (eVar 2))) (gSet 8) cTrue (eApp F_over (aCons (eVar 8) (aCons (eOp2 dIx (eIxO 0 (eVar 2)) (eVar 2)) aNil)))) (gSet 4) [.own (.lst (matL m a)), .dat (.int m), .dat (.int k), s3, s4, s5, s6, s7, s8, s9, s10] = some (.nx, [.own (.lst (matL m a)), .dat (.int m), .dat (.int k), s3, .dat (rowD (m + 1) fun j => a k j / a k k), s5, s6, s7, s8, s9, s10]) := by
  have key := eLcT (vs := [8]) (ρ := [.own (.lst (matL m a)), .dat (.int m), .dat (.int k), s3, s4, s5, s6, s7, s8, s9, s10]) (it := iSeq (eIxO 0 (eVar 2))) (tg := gSet 8) (m := eApp F_over (aCons (eVar 8) (aCons (eOp2 dIx (eIxO 0 (eVar 2)) (eVar 2)) aNil)))
    (fun j => fr (a k j)) (fun j => fr (a k j / a k k)) (fun j => [.own (.lst (matL m a)), .dat (.int m), .dat (.int k), s3, s4, s5, s6, s7, .dat (fr (a k j)), s9, s10]) (List.range (m + 1))
    (by simp only [sSeq, sIf, sNil, sAsg, sRet, sDrop, cV, cAnd, cOr, cNot, cTrue, eOp2, eOp1, eVar, eC, eApp, aCons, aNil, eIf, eAnd, eOr, eNot, eChain, eNeg, asB, dLt, dLe, dGt, dGe, dSub, dIx, dAbs, dMin, dMax, dLen, dList, dTuple, mkTup, mkLst, gSet, QL.gTup, gTupF, unTup, sPar2, xDat, xOwn, xNil, noScr, sOwn, oLst, iSeq, asSeq, iApp, endOf, List.map_cons, List.map_nil, List.length_cons, List.length_nil, List.length_set, List.replicate, List.cons_append, List.nil_append, List.getElem?_cons_zero, List.getElem?_cons_succ, List.getElem?_nil, Option.bind_some, Option.bind_none, Option.map_some, Option.map_none, List.set_cons_zero, List.set_cons_succ, List.set_nil, Bool.false_eq_true, if_false, if_true, ne_eq, not_false_eq_true, not_true_eq_false, and_self, and_true, true_and, Bool.not_true, Bool.not_false, Bool.and_true, Bool.true_and, Nat.reduceAdd, Nat.reduceSub, Nat.reduceLeDiff, Nat.reduceLT, Nat.reduceEqDiff, Nat.lt_irrefl, decide_true, decide_false, isa1, isa2, isa3, isa4, isa5, isa6, isa7, isa8, atI_0, atI_1, atI_2, atI_3, Option.getD_some, ownL, scrAt, eIxO, ownL, atI_mat a hk, rowD, rowL]) (by simp; omega)
    (fun j hj => by
      have hj' := List.mem_range.mp hj
      have := F_over_eq (hs.sz hk hj') (hs.sz hk (show k < m + 1 by omega)) hs2 h0
      refine ⟨rfl, ?_, rfl⟩
      simp only [sSeq, sIf, sNil, sAsg, sRet, sDrop, cV, cAnd, cOr, cNot, cTrue, eOp2, eOp1, eVar, eC, eApp, aCons, aNil, eIf, eAnd, eOr, eNot, eChain, eNeg, asB, dLt, dLe, dGt, dGe, dSub, dIx, dAbs, dMin, dMax, dLen, dList, dTuple, mkTup, mkLst, gSet, QL.gTup, gTupF, unTup, sPar2, xDat, xOwn, xNil, noScr, sOwn, oLst, iSeq, asSeq, iApp, endOf, List.map_cons, List.map_nil, List.length_cons, List.length_nil, List.length_set, List.replicate, List.cons_append, List.nil_append, List.getElem?_cons_zero, List.getElem?_cons_succ, List.getElem?_nil, Option.bind_some, Option.bind_none, Option.map_some, Option.map_none, List.set_cons_zero, List.set_cons_succ, List.set_nil, Bool.false_eq_true, if_false, if_true, ne_eq, not_false_eq_true, not_true_eq_false, and_self, and_true, true_and, Bool.not_true, Bool.not_false, Bool.and_true, Bool.true_and, Nat.reduceAdd, Nat.reduceSub, Nat.reduceLeDiff, Nat.reduceLT, Nat.reduceEqDiff, Nat.lt_irrefl, decide_true, decide_false, isa1, isa2, isa3, isa4, isa5, isa6, isa7, isa8, atI_0, atI_1, atI_2, atI_3, Option.getD_some, ownL, scrAt, eIxO, ownL, atI_mat a hk, rowD, atI_row (a k) (show k < m + 1 by omega), this])
    (by rcases h8 with rfl | ⟨d, rfl⟩ <;> rfl)
  simp only [sAsg, key, Option.bind_some, gSet, Option.map_some, List.set_cons_succ, List.set_cons_zero]
  rfl
theorem enum_mat (m : Nat) (a : Mat) : enumL (matL m a) = (List.range m).map fun (i : Nat) => .tuple [.int i, rowD (m + 1) (a i)] := by
  refine List.ext_getElem? fun j => ?_
  by_cases hj : j < m
  · have : (enumL (matL m a))[j]? = some (.tuple [.int j, rowD (m + 1) (a j)]) := by
      cases q : (enumL (matL m a))[j]? with
      | none =>
        rw [List.getElem?_eq_none_iff, enumL_length, matL_length] at q
        omega
      | some d =>
        obtain ⟨x, hx, rfl⟩ := enumL_get q
        unfold matL at hx
        rw [List.getElem?_map, List.getElem?_range hj] at hx
        cases hx
        rfl
    rw [this, List.getElem?_map, List.getElem?_range hj]; rfl
  · rw [List.getElem?_eq_none (by rw [enumL_length, matL_length]; omega), List.getElem?_eq_none (by simp; omega)]
theorem zipL_map {α : Type} (f g : α → D) : ∀ xs : List α, zipL (xs.map f) (xs.map g) = xs.map fun x => .tuple [f x, g x]
  | [] => rfl
  | x :: xs => by
    have := zipL_map f g xs
    unfold zipL at this ⊢
    simp only [List.map_cons, List.zip_cons_cons, this]
theorem zip_rows (n : Nat) (f g : Nat → Rat) : zipL (rowL n f) (rowL n g) = (List.range n).map fun j => .tuple [fr (f j), fr (g j)] := zipL_map _ _ _
/-- what is put behind for the row i -/
def newRow (a : Mat) (m k i : Nat) : D := rowD (m + 1) (stp a k i)
theorem div_bound {s : Nat} {a : Mat} {m k j : Nat} (hs : SzM s a m) (hk : k < m) (hj : j < m + 1) (h0 : a k k ≠ 0) : Sz s (a k j / a k k) := by
  obtain ⟨d, v, hd, h2, hv⟩ := hs.row k hk
  have hvp : v k ≠ 0 := fun z => h0 (by rw [(hv k (by omega)).1, z]; grind)
  have r1 := int_ne hd
  have r2 := int_ne hvp
  have e : a k j / a k k = (v j : Rat) / (v k : Rat) := by
    rw [(hv j hj).1, (hv k (by omega)).1]; grind
  rw [e]
  exact Sz.frac hvp (hv j hj).2 (hv k (by omega)).2
theorem solved_row {m k s i : Nat} (a : Mat) (hk : k < m) (hi : i < m) (hm : m ≤ 6) (hs : SzM s a m) (hs2 : 3 * s ≤ 9000) (h0 : a k k ≠ 0) (s0 s1 s3 s5 s8 s9 s10 : Sl) (h9 : s9 = .un ∨ ∃ d, s9 = .dat d) (h10 : s10 = .un ∨ ∃ d, s10 = .dat d) :
    (eIf (cV (eOp2 dEq (eVar 6) (eVar 2))) (eVar 4) (eLc [9, 10] (iApp zipD (aCons (eVar 7) (aCons (eVar 4) aNil))) (gTup [(gSet 9), (gSet 10)]) cTrue (eApp F_minus (aCons (eVar 9) (aCons (eApp F_times (aCons (eOp2 dIx (eVar 7) (eVar 2)) (aCons (eVar 10) aNil))) aNil))))) [s0, s1, .dat (.int k), s3, .dat (rowD (m + 1) fun j => a k j / a k k), s5, .dat (.int i), .dat (rowD (m + 1) (a i)), s8, s9, s10] = some (newRow a m k i, [s0, s1, .dat (.int k), s3, .dat (rowD (m + 1) fun j => a k j / a k k), s5, .dat (.int i), .dat (rowD (m + 1) (a i)), s8, s9, s10]) := by
  by_cases q : i = k
  · have e : dEq (.int (i : Int)) (.int (k : Int)) = some (.bool true) := by rw [q, dEq_int]; simp
    simp only [sSeq, sIf, sNil, sAsg, sRet, sDrop, cV, cAnd, cOr, cNot, cTrue, eOp2, eOp1, eVar, eC, eApp, aCons, aNil, eIf, eAnd, eOr, eNot, eChain, eNeg, asB, dLt, dLe, dGt, dGe, dSub, dIx, dAbs, dMin, dMax, dLen, dList, dTuple, mkTup, mkLst, gSet, QL.gTup, gTupF, unTup, sPar2, xDat, xOwn, xNil, noScr, sOwn, oLst, iSeq, asSeq, iApp, endOf, List.map_cons, List.map_nil, List.length_cons, List.length_nil, List.length_set, List.replicate, List.cons_append, List.nil_append, List.getElem?_cons_zero, List.getElem?_cons_succ, List.getElem?_nil, Option.bind_some, Option.bind_none, Option.map_some, Option.map_none, List.set_cons_zero, List.set_cons_succ, List.set_nil, Bool.false_eq_true, if_false, if_true, ne_eq, not_false_eq_true, not_true_eq_false, and_self, and_true, true_and, Bool.not_true, Bool.not_false, Bool.and_true, Bool.true_and, Nat.reduceAdd, Nat.reduceSub, Nat.reduceLeDiff, Nat.reduceLT, Nat.reduceEqDiff, Nat.lt_irrefl, decide_true, decide_false, isa1, isa2, isa3, isa4, isa5, isa6, isa7, isa8, atI_0, atI_1, atI_2, atI_3, Option.getD_some, ownL, scrAt, e]
    unfold newRow rowD
    congr 3
    refine rowL_congr fun j _ => ?_
    unfold stp
    rw [if_pos q]
  · have e : dEq (.int (i : Int)) (.int (k : Int)) = some (.bool false) := by
      rw [dEq_int]
      have : ¬ (i : Int) = k := by omega
      simp [this]
    have key := eLcT (vs := [9, 10]) (ρ := [s0, s1, .dat (.int k), s3, .dat (rowD (m + 1) fun j => a k j / a k k), s5, .dat (.int i), .dat (rowD (m + 1) (a i)), s8, s9, s10]) (it := iApp zipD (aCons (eVar 7) (aCons (eVar 4) aNil))) (tg := gTup [(gSet 9), (gSet 10)]) (m := eApp F_minus (aCons (eVar 9) (aCons (eApp F_times (aCons (eOp2 dIx (eVar 7) (eVar 2)) (aCons (eVar 10) aNil))) aNil)))
      (fun j => .tuple [fr (a i j), fr (a k j / a k k)]) (fun j => fr (a i j - a i k * (a k j / a k k))) (fun j => [s0, s1, .dat (.int k), s3, .dat (rowD (m + 1) fun j => a k j / a k k), s5, .dat (.int i), .dat (rowD (m + 1) (a i)), s8, .dat (fr (a i j)), .dat (fr (a k j / a k k))]) (List.range (m + 1))
      (by simp only [sSeq, sIf, sNil, sAsg, sRet, sDrop, cV, cAnd, cOr, cNot, cTrue, eOp2, eOp1, eVar, eC, eApp, aCons, aNil, eIf, eAnd, eOr, eNot, eChain, eNeg, asB, dLt, dLe, dGt, dGe, dSub, dIx, dAbs, dMin, dMax, dLen, dList, dTuple, mkTup, mkLst, gSet, QL.gTup, gTupF, unTup, sPar2, xDat, xOwn, xNil, noScr, sOwn, oLst, iSeq, asSeq, iApp, endOf, List.map_cons, List.map_nil, List.length_cons, List.length_nil, List.length_set, List.replicate, List.cons_append, List.nil_append, List.getElem?_cons_zero, List.getElem?_cons_succ, List.getElem?_nil, Option.bind_some, Option.bind_none, Option.map_some, Option.map_none, List.set_cons_zero, List.set_cons_succ, List.set_nil, Bool.false_eq_true, if_false, if_true, ne_eq, not_false_eq_true, not_true_eq_false, and_self, and_true, true_and, Bool.not_true, Bool.not_false, Bool.and_true, Bool.true_and, Nat.reduceAdd, Nat.reduceSub, Nat.reduceLeDiff, Nat.reduceLT, Nat.reduceEqDiff, Nat.lt_irrefl, decide_true, decide_false, isa1, isa2, isa3, isa4, isa5, isa6, isa7, isa8, atI_0, atI_1, atI_2, atI_3, Option.getD_some, ownL, scrAt, rowD, zipD, zip_rows]) (by simp; omega)
      (fun j hj => by
        have hj' := List.mem_range.mp hj
        have b1 := div_bound hs hk hj' h0
        have b2 := hs.sz hi (show k < m + 1 by omega)
        have e1 := F_times_eq b2 b1 (by omega)
        have e2 := F_minus_eq (hs.sz hi hj') (b2.mul b1) (by omega)
        refine ⟨rfl, ?_, rfl⟩
        simp only [sSeq, sIf, sNil, sAsg, sRet, sDrop, cV, cAnd, cOr, cNot, cTrue, eOp2, eOp1, eVar, eC, eApp, aCons, aNil, eIf, eAnd, eOr, eNot, eChain, eNeg, asB, dLt, dLe, dGt, dGe, dSub, dIx, dAbs, dMin, dMax, dLen, dList, dTuple, mkTup, mkLst, gSet, QL.gTup, gTupF, unTup, sPar2, xDat, xOwn, xNil, noScr, sOwn, oLst, iSeq, asSeq, iApp, endOf, List.map_cons, List.map_nil, List.length_cons, List.length_nil, List.length_set, List.replicate, List.cons_append, List.nil_append, List.getElem?_cons_zero, List.getElem?_cons_succ, List.getElem?_nil, Option.bind_some, Option.bind_none, Option.map_some, Option.map_none, List.set_cons_zero, List.set_cons_succ, List.set_nil, Bool.false_eq_true, if_false, if_true, ne_eq, not_false_eq_true, not_true_eq_false, and_self, and_true, true_and, Bool.not_true, Bool.not_false, Bool.and_true, Bool.true_and, Nat.reduceAdd, Nat.reduceSub, Nat.reduceLeDiff, Nat.reduceLT, Nat.reduceEqDiff, Nat.lt_irrefl, decide_true, decide_false, isa1, isa2, isa3, isa4, isa5, isa6, isa7, isa8, atI_0, atI_1, atI_2, atI_3, Option.getD_some, ownL, scrAt, rowD, atI_row (a i) (show k < m + 1 by omega), e1, e2])
      (by rcases h9 with rfl | ⟨d, rfl⟩ <;> rcases h10 with rfl | ⟨d, rfl⟩ <;> rfl)
    simp only [eIf, cV, eOp2, eVar, List.getElem?_cons_succ, List.getElem?_cons_zero, Option.bind_some, e, Option.map_some, asB, Bool.false_eq_true, if_false, key]
    unfold newRow rowD rowL
    congr 3
    refine List.map_congr_left fun j _ => ?_
    unfold stp
    rw [if_neg q]

end QP
set_option Elab.async false
set_option linter.all false
set_option maxRecDepth 100000
set_option maxHeartbeats 1000000
namespace QP
open PySem PySem.Spec PyProof.Rows L2 QL
def ud (s : Sl) : Prop := s = .un ∨ ∃ d, s = .dat d
theorem range_get {n i a : Nat} (h : (List.range n)[i]? = some a) : a = i ∧ i < n := by
  have hi : i < n := by
    have := (List.getElem?_eq_some_iff.mp h).1
    simpa using this
  rw [List.getElem?_range hi] at h
  exact ⟨(Option.some.inj h).symm, hi⟩
theorem solved_rows {m k s : Nat} (a : Mat) (hk : k < m) (hm : m ≤ 6) (hs : SzM s a m) (hs2 : 3 * s ≤ 9000) (h0 : a k k ≠ 0) (s1 s3 s6 s7 s8 s9 s10 : Sl) (h9 : s9 = .un ∨ ∃ d, s9 = .dat d) (h10 : s10 = .un ∨ ∃ d, s10 = .dat d) (h7 : ud s7) :
    ∃ s6' s7', ud s7' ∧ sFor (iApp enumA (aCons (eVar 0) aNil)) (gTup [(gSet 6), (gSet 7)]) (sDrop (eAppend 5 (eIf (cV (eOp2 dEq (eVar 6) (eVar 2))) (eVar 4) (eLc [9, 10] (iApp zipD (aCons (eVar 7) (aCons (eVar 4) aNil))) (gTup [(gSet 9), (gSet 10)]) cTrue (eApp F_minus (aCons (eVar 9) (aCons (eApp F_times (aCons (eOp2 dIx (eVar 7) (eVar 2)) (aCons (eVar 10) aNil))) aNil)))))))
      [.own (.lst (matL m a)), s1, .dat (.int k), s3, .dat (rowD (m + 1) fun j => a k j / a k k), .own (.lst []), s6, s7, s8, s9, s10]
      = some (.nx, [.dat (.list (matL m a)), s1, .dat (.int k), s3, .dat (rowD (m + 1) fun j => a k j / a k k), .own (.lst (matL m (stp a k))), s6', s7', s8, s9, s10]) := by
  obtain ⟨ρ', e, s6', s7', h7', rfl⟩ := forM_inv (g := gTup [(gSet 6), (gSet 7)]) (b := sDrop (eAppend 5 (eIf (cV (eOp2 dEq (eVar 6) (eVar 2))) (eVar 4) (eLc [9, 10] (iApp zipD (aCons (eVar 7) (aCons (eVar 4) aNil))) (gTup [(gSet 9), (gSet 10)]) cTrue (eApp F_minus (aCons (eVar 9) (aCons (eApp F_times (aCons (eOp2 dIx (eVar 7) (eVar 2)) (aCons (eVar 10) aNil))) aNil)))))))
    (fun (i : Nat) => .tuple [.int i, rowD (m + 1) (a i)]) (List.range m) (fun i ρ => ∃ s6 s7, ud s7 ∧ ρ = [.dat (.list (matL m a)), s1, .dat (.int k), s3, .dat (rowD (m + 1) fun j => a k j / a k k), .own (.lst ((List.range i).map (newRow a m k))), s6, s7, s8, s9, s10])
    [.dat (.list (matL m a)), s1, .dat (.int k), s3, .dat (rowD (m + 1) fun j => a k j / a k k), .own (.lst []), s6, s7, s8, s9, s10]
    (fun i x ρ hx hp => by
      obtain ⟨rfl, hi⟩ := range_get hx
      obtain ⟨s6, s7, _, rfl⟩ := hp
      refine ⟨_, _, rfl, ?_, .dat (.int x), .dat (rowD (m + 1) (a x)), .inr ⟨_, rfl⟩, rfl⟩
      have h1 := solved_row a hk hi hm hs hs2 h0 (.dat (.list (matL m a))) s1 s3 (.own (.lst ((List.range x).map (newRow a m k)))) s8 s9 s10 h9 h10
      simp only [sDrop, eAppend, ownL, List.set_cons_succ, List.set_cons_zero, List.getElem?_cons_succ, List.getElem?_cons_zero, Option.bind_some, h1, List.length_map, List.length_range, if_pos (show x < 1000000 by omega), Option.map_some, List.range_succ, List.map_append, List.map_cons, List.map_nil])
    ⟨s6, s7, h7, rfl⟩
  refine ⟨s6', s7', h7', ?_⟩
  simp only [sFor, iApp, aCons, aNil, eVar, List.getElem?_cons_zero, Option.bind_some, Option.map_some, List.set_cons_zero, enumA, enum_mat]
  rw [e, List.length_range]
  rfl
def solvedBody : MS := (sSeq (sAsg (eOp2 dIx (eLc [3] (iApp rng2 (aCons (eVar 2) (aCons (eVar 1) aNil))) (gSet 3) (cV (eOp2 dNe (eOp2 dIx (eIxO 0 (eVar 3)) (eVar 2)) (eC (.tuple [(.int 0), (.int 1)])))) (eVar 3)) (eC (.int 0))) (gSet 3)) (sSeq (sSwap 0 (eVar 2) (eVar 3) (eApp mkTup (aCons (eIxO 0 (eVar 3)) (aCons (eIxO 0 (eVar 2)) aNil)))) (sSeq (sAsg (eLc [8] (iSeq (eIxO 0 (eVar 2))) (gSet 8) cTrue (eApp F_over (aCons (eVar 8) (aCons (eOp2 dIx (eIxO 0 (eVar 2)) (eVar 2)) aNil)))) (gSet 4)) (sSeq (sOwn 5 (oLst aNil)) (sSeq (sFor (iApp enumA (aCons (eVar 0) aNil)) (gTup [(gSet 6), (gSet 7)]) (sDrop (eAppend 5 (eIf (cV (eOp2 dEq (eVar 6) (eVar 2))) (eVar 4) (eLc [9, 10] (iApp zipD (aCons (eVar 7) (aCons (eVar 4) aNil))) (gTup [(gSet 9), (gSet 10)]) cTrue (eApp F_minus (aCons (eVar 9) (aCons (eApp F_times (aCons (eOp2 dIx (eVar 7) (eVar 2)) (aCons (eVar 10) aNil))) aNil)))))))) (sOwn 0 (oVar 5)))))))
theorem solved_body {m k s : Nat} (a : Mat) (hk : k < m) (hm : m ≤ 6) (hs : SzM s a m) (hs2 : 3 * s ≤ 9000) (hi : Inj a m) (hu : Unt a m k) (s3 s4 s5 s6 s7 s8 s9 s10 : Sl) (h3 : ud s3) (h7 : ud s7) (h8 : ud s8) (h9 : ud s9) (h10 : ud s10) :
    ∃ t s3' s4' s6' s7', t < m ∧ k ≤ t ∧ a t k ≠ 0 ∧ ud s3' ∧ ud s7' ∧ solvedBody [.own (.lst (matL m a)), .dat (.int m), .dat (.int k), s3, s4, s5, s6, s7, s8, s9, s10] = some (.nx, [.own (.lst (matL m (stp (swp a k t) k))), .dat (.int m), .dat (.int k), s3', s4', .un, s6', s7', s8, s9, s10]) := by
  obtain ⟨t, t1, t2, t3, e1⟩ := solved_at a hk hm (pivot hk hi hu) s3 s4 s5 s6 s7 s8 s9 s10 h3
  have e2 := solved_swap a hk t2 s4 s5 s6 s7 s8 s9 s10
  have hb : SzM s (swp a k t) m := hs.swp hk t2
  have h0 : swp a k t k k ≠ 0 := by
    unfold swp
    by_cases q : k = t
    · simp only [if_pos q]; rw [q] at t3 ⊢; exact t3
    · simp only [if_neg q, if_true]; exact t3
  have e3 := solved_head (swp a k t) hk hm hb (by omega) h0 (.dat (.int t)) s4 s5 s6 s7 s8 s9 s10 h8
  obtain ⟨s6', s7', h7', e4⟩ := solved_rows (swp a k t) hk hm hb hs2 h0 (.dat (.int m)) (.dat (.int t)) s6 s7 s8 s9 s10 h9 h10 h7
  refine ⟨t, .dat (.int t), .dat (rowD (m + 1) fun j => swp a k t k j / swp a k t k k), s6', s7', t2, t1, t3, .inr ⟨_, rfl⟩, h7', ?_⟩
  unfold solvedBody
  simp only [sSeq, e1, e2, e3, Option.bind_some, sOwn, oLst, aNil, List.length_nil, Nat.zero_le, if_true, Option.map_some, List.set_cons_succ, List.set_cons_zero, e4, oVar, List.getElem?_cons_succ, List.getElem?_cons_zero]
theorem F_solved_eq {m s : Nat} (a : Mat) (hm : m ≤ 6) (hs : SzM s a m) (hi : Inj a m) (hs2 : 3 * grw s m ≤ 9000) :
    ∃ x : Nat → Rat, F_solved [.own (.lst (matL m a))] = some (rowD m x, [.un]) ∧ (∀ i, i < m → sm m (fun j => a i j * x j) = a i m) ∧ ∃ d : Int, d ≠ 0 ∧ d.natAbs < 2 ^ grw s m ∧ ∀ i, i < m → ∃ v : Int, x i = (v : Rat) / (d : Rat) ∧ v.natAbs ≤ 2 ^ grw s m := by
  have mono : ∀ k, k ≤ m → grw s k ≤ grw s m := by
    have step : ∀ k n, grw s k ≤ grw s (k + n) := by
      intro k n
      induction n with
      | zero => exact Nat.le_refl _
      | succ n ih => show grw s k ≤ 2 * grw s (k + n) + 1; omega
    intro k hk
    have := step k (m - k)
    rw [show k + (m - k) = m by omega] at this
    exact this
  obtain ⟨ρ', e, a', s2, s3, s4, s5, s6, s7, s8, s9, s10, rfl, _, _, _, _, h7, u1, z1, n1, i1⟩ := forM_inv (g := gSet 2) (b := solvedBody) (fun (i : Nat) => .int i) (List.range m)
    (fun k ρ => ∃ (a' : Mat) (s2 s3 s4 s5 s6 s7 s8 s9 s10 : Sl), ρ = [.own (.lst (matL m a')), .dat (.int m), s2, s3, s4, s5, s6, s7, s8, s9, s10] ∧ ud s3 ∧ ud s8 ∧ ud s9 ∧ ud s10 ∧ ud s7 ∧ Unt a' m k ∧ SzM (grw s k) a' m ∧ (∀ y, Nul a' m y → Nul a m y) ∧ Inj a' m)
    [.own (.lst (matL m a)), .dat (.int m), .un, .un, .un, .un, .un, .un, .un, .un, .un]
    (fun k x ρ hx hp => by
      obtain ⟨rfl, hk⟩ := range_get hx
      obtain ⟨a', s2, s3, s4, s5, s6, s7, s8, s9, s10, rfl, h3, h8, h9, h10, h7, u1, z1, n1, i1⟩ := hp
      have hb : 3 * grw s x ≤ 9000 := by have := mono x (by omega); omega
      obtain ⟨t, s3', s4', s6', s7', t2, t1, t3, h3', h7', e1⟩ := solved_body a' hk hm z1 hb i1 u1 s3 s4 s5 s6 s7 s8 s9 s10 h3 h7 h8 h9 h10
      have h0 : swp a' x t x x ≠ 0 := by
        unfold swp
        by_cases q : x = t
        · simp only [if_pos q]; rw [q] at t3 ⊢; exact t3
        · simp only [if_neg q, if_true]; exact t3
      have nn : ∀ y, Nul (stp (swp a' x t) x) m y → Nul a' m y := fun y hy => swp_nul hk t2 (stp_nul hk h0 hy)
      exact ⟨_, _, rfl, e1, stp (swp a' x t) x, _, s3', s4', .un, s6', s7', s8, s9, s10, rfl, h3', h8, h9, h10, h7', stp_unt hk h0 (swp_unt t1 t2 u1), (z1.swp hk t2).stp hk h0, fun y hy => n1 y (nn y hy), inj_of nn i1⟩)
    ⟨a, .un, .un, .un, .un, .un, .un, .un, .un, .un, rfl, .inl rfl, .inl rfl, .inl rfl, .inl rfl, .inl rfl, fun i hi j hj => absurd hj (Nat.not_lt_zero _), hs, fun y hy => hy, hi⟩
  rw [List.length_range] at u1 z1
  obtain ⟨dd, vv, hdd, hd2, hvv⟩ := z1
  refine ⟨fun j => a' j m, ?_, nul_end (n1 _ (unt_end u1)), dd, hdd, hd2, fun i hi => ⟨vv i m, (hvv i hi m (Nat.lt_succ_self _)).1, Nat.le_of_lt (hvv i hi m (Nat.lt_succ_self _)).2⟩⟩
  have key := eLcT (vs := [7]) (ρ := [.dat (.list (matL m a')), .dat (.int m), s2, s3, s4, s5, s6, s7, s8, s9, s10]) (it := iSeq (eC (.list (matL m a')))) (tg := gSet 7) (m := eOp2 dIx (eVar 7) (eNeg (eC (.int 1))))
    (fun i => rowD (m + 1) (a' i)) (fun i => fr (a' i m)) (fun i => [.dat (.list (matL m a')), .dat (.int m), s2, s3, s4, s5, s6, .dat (rowD (m + 1) (a' i)), s8, s9, s10]) (List.range m)
    rfl (by simp; omega)
    (fun i hi => by
      have : atI (rowL (m + 1) (a' i)) (-1) = some (fr (a' i m)) := by
        unfold atI
        have e : ixN (rowL (m + 1) (a' i)).length (-1) = some m := by
          rw [rowL_length]
          unfold ixN
          rw [if_neg (by decide), if_pos (by omega)]
          congr 1
          omega
        rw [e, Option.bind_some]
        unfold rowL
        rw [List.getElem?_map, List.getElem?_range (by omega)]
        rfl
      refine ⟨rfl, ?_, rfl⟩
      simp only [sSeq, sIf, sNil, sAsg, sRet, sDrop, cV, cAnd, cOr, cNot, cTrue, eOp2, eOp1, eVar, eC, eApp, aCons, aNil, eIf, eAnd, eOr, eNot, eChain, eNeg, asB, dLt, dLe, dGt, dGe, dSub, dIx, dAbs, dMin, dMax, dLen, dList, dTuple, mkTup, mkLst, gSet, QL.gTup, gTupF, unTup, sPar2, xDat, xOwn, xNil, noScr, sOwn, oLst, iSeq, asSeq, iApp, endOf, List.map_cons, List.map_nil, List.length_cons, List.length_nil, List.length_set, List.replicate, List.cons_append, List.nil_append, List.getElem?_cons_zero, List.getElem?_cons_succ, List.getElem?_nil, Option.bind_some, Option.bind_none, Option.map_some, Option.map_none, List.set_cons_zero, List.set_cons_succ, List.set_nil, Bool.false_eq_true, if_false, if_true, ne_eq, not_false_eq_true, not_true_eq_false, and_self, and_true, true_and, Bool.not_true, Bool.not_false, Bool.and_true, Bool.true_and, Nat.reduceAdd, Nat.reduceSub, Nat.reduceLeDiff, Nat.reduceLT, Nat.reduceEqDiff, Nat.lt_irrefl, decide_true, decide_false, isa1, isa2, isa3, isa4, isa5, isa6, isa7, isa8, atI_0, atI_1, atI_2, atI_3, Option.getD_some, ownL, scrAt, rowD, this])
    (by rcases h7 with rfl | ⟨d, rfl⟩ <;> rfl)
  have e0 : rng1 [.int (m : Int)] = some ((List.range m).map fun (i : Nat) => .int i) := rng1_nat (by omega)
  have efor : sFor (iApp rng1 (aCons (eVar 1) aNil)) (gSet 2) solvedBody [.own (.lst (matL m a)), .dat (.int m), .un, .un, .un, .un, .un, .un, .un, .un, .un] = some (.nx, [.own (.lst (matL m a')), .dat (.int m), s2, s3, s4, s5, s6, s7, s8, s9, s10]) := by
    have e1 : iApp rng1 (aCons (eVar 1) aNil) [.own (.lst (matL m a)), .dat (.int m), .un, .un, .un, .un, .un, .un, .un, .un, .un] = some ((List.range m).map (fun (i : Nat) => .int i), [.own (.lst (matL m a)), .dat (.int m), .un, .un, .un, .un, .un, .un, .un, .un, .un]) := by
      simp only [sSeq, sIf, sNil, sAsg, sRet, sDrop, cV, cAnd, cOr, cNot, cTrue, eOp2, eOp1, eVar, eC, eApp, aCons, aNil, eIf, eAnd, eOr, eNot, eChain, eNeg, asB, dLt, dLe, dGt, dGe, dSub, dIx, dAbs, dMin, dMax, dLen, dList, dTuple, mkTup, mkLst, gSet, QL.gTup, gTupF, unTup, sPar2, xDat, xOwn, xNil, noScr, sOwn, oLst, iSeq, asSeq, iApp, endOf, List.map_cons, List.map_nil, List.length_cons, List.length_nil, List.length_set, List.replicate, List.cons_append, List.nil_append, List.getElem?_cons_zero, List.getElem?_cons_succ, List.getElem?_nil, Option.bind_some, Option.bind_none, Option.map_some, Option.map_none, List.set_cons_zero, List.set_cons_succ, List.set_nil, Bool.false_eq_true, if_false, if_true, ne_eq, not_false_eq_true, not_true_eq_false, and_self, and_true, true_and, Bool.not_true, Bool.not_false, Bool.and_true, Bool.true_and, Nat.reduceAdd, Nat.reduceSub, Nat.reduceLeDiff, Nat.reduceLT, Nat.reduceEqDiff, Nat.lt_irrefl, decide_true, decide_false, isa1, isa2, isa3, isa4, isa5, isa6, isa7, isa8, atI_0, atI_1, atI_2, atI_3, Option.getD_some, ownL, scrAt, e0]
    unfold sFor
    rw [e1]
    exact e
  have eret : eLc [7] (iSeq (eVar 0)) (gSet 7) cTrue (eOp2 dIx (eVar 7) (eNeg (eC (.int 1)))) [.own (.lst (matL m a')), .dat (.int m), s2, s3, s4, s5, s6, s7, s8, s9, s10] = some (.list ((List.range m).map fun i => fr (a' i m)), [.dat (.list (matL m a')), .dat (.int m), s2, s3, s4, s5, s6, s7, s8, s9, s10]) := key
  unfold solvedBody at efor
  unfold F_solved runC B_solved
  simp only [List.length_cons, List.length_nil, Nat.reduceAdd, Nat.reduceLeDiff, and_self, if_true, Nat.reduceSub, List.replicate, List.cons_append, List.nil_append, sSeq, sAsg, eLenO, ownL, List.getElem?_cons_zero, Option.map_some, matL_length, Option.bind_some, gSet, List.set_cons_succ, List.set_cons_zero]
  rw [efor]
  simp only [Option.bind_some, sRet, eret, Option.map_some, endC, List.map_cons, List.map_nil, noOwn]
  rfl

end QP
set_option Elab.async false
set_option linter.all false
set_option maxRecDepth 100000
set_option maxHeartbeats 1000000
namespace QP
open PySem PySem.Spec PyProof.Rows L2 QL
/-! ### sums over lists -/
def ls : List Nat → (Nat → Rat) → Rat
  | [], _ => 0
  | c :: l, f => f c + ls l f
theorem ls_ind {n : Nat} (f : Nat → Rat) : ∀ (l : List Nat), l.Nodup → (∀ c ∈ l, c < n) → sm n (fun c => if c ∈ l then f c else 0) = ls l f
  | [], _, _ => sm_zero fun i _ => by simp
  | k :: l, hn, hl => by
    rw [List.nodup_cons] at hn
    have ih := ls_ind f l hn.2 fun c hc => hl c (List.mem_cons_of_mem _ hc)
    have e : sm n (fun c => if c ∈ k :: l then f c else 0) = sm n (fun c => (if c = k then f c else 0) + (if c ∈ l then f c else 0)) := sm_congr fun c _ => by
      by_cases q : c = k
      · subst q
        rw [if_pos List.mem_cons_self, if_pos rfl, if_neg hn.1]; grind
      · rw [if_neg q]
        by_cases q2 : c ∈ l
        · rw [if_pos (List.mem_cons_of_mem _ q2), if_pos q2]; grind
        · rw [if_neg (by simp [q, q2]), if_neg q2]; grind
    rw [e, sm_add, sm_pick (hl k List.mem_cons_self), ih]
    rfl
theorem ls_sm (f : Nat → Rat) : ∀ l : List Nat, ls l f = sm l.length (fun j => f (l.getD j 0)) := by
  have key : ∀ (l m : List Nat), ls l f + sm m.length (fun j => f ((m ++ l).getD j 0)) = sm (m ++ l).length (fun j => f ((m ++ l).getD j 0)) := by
    intro l
    induction l with
    | nil => intro m; simp [ls]; grind
    | cons c l ih =>
      intro m
      have := ih (m ++ [c])
      rw [List.append_assoc] at this
      simp only [List.cons_append, List.nil_append] at this
      rw [← this]
      show (f c + ls l f) + _ = _
      have e : sm (m ++ [c]).length (fun j => f ((m ++ c :: l).getD j 0)) = sm m.length (fun j => f ((m ++ c :: l).getD j 0)) + f c := by
        rw [List.length_append]
        show sm m.length _ + f ((m ++ c :: l).getD m.length 0) = _
        congr 1
        congr 1
        simp
      rw [e]; grind
  intro l
  have := key l []
  simp only [List.nil_append, List.length_nil] at this
  rw [← this]
  show ls l f = ls l f + 0
  grind
theorem ls_congr {f g : Nat → Rat} : ∀ {l : List Nat}, (∀ c ∈ l, f c = g c) → ls l f = ls l g
  | [], _ => rfl
  | c :: l, h => by
    show f c + ls l f = g c + ls l g
    rw [h c List.mem_cons_self, ls_congr fun c hc => h c (List.mem_cons_of_mem _ hc)]
/-- the sum over all, parted -/
theorem sm_part {n : Nat} (f : Nat → Rat) (l k : List Nat) (hl : l.Nodup) (hk : k.Nodup) (h1 : ∀ c ∈ l, c < n) (h2 : ∀ c ∈ k, c < n) (h3 : ∀ c, c < n → (c ∈ l ↔ ¬ c ∈ k)) : sm n f = ls l f + ls k f := by
  rw [← ls_ind f l hl h1, ← ls_ind f k hk h2, ← sm_add]
  refine sm_congr fun c hc => ?_
  by_cases q : c ∈ k
  · rw [if_neg (fun z => (h3 c hc).mp z q), if_pos q]; grind
  · rw [if_pos ((h3 c hc).mpr q), if_neg q]; grind

/-! ### common denominators -/
def Cd (d : Int) (B : Nat) (x : Rat) : Prop := ∃ v : Int, x = (v : Rat) / (d : Rat) ∧ v.natAbs ≤ B
theorem Cd.add {d : Int} {A B : Nat} {x y : Rat} (hx : Cd d A x) (hy : Cd d B y) : Cd d (A + B) (x + y) := by
  obtain ⟨v, rfl, hv⟩ := hx
  obtain ⟨w, rfl, hw⟩ := hy
  refine ⟨v + w, by rw [Rat.intCast_add]; grind, ?_⟩
  have := Int.natAbs_add_le v w
  omega
theorem Cd.neg {d : Int} {A : Nat} {x : Rat} (hx : Cd d A x) : Cd d A (-x) := by
  obtain ⟨v, rfl, hv⟩ := hx
  exact ⟨-v, by rw [Rat.intCast_neg]; grind, by omega⟩
theorem Cd.sub {d : Int} {A B : Nat} {x y : Rat} (hx : Cd d A x) (hy : Cd d B y) : Cd d (A + B) (x - y) := by
  rw [Rat.sub_eq_add_neg]; exact hx.add hy.neg
theorem Cd.zero (d : Int) : Cd d 0 0 := ⟨0, by simp; grind, by simp⟩
theorem Cd.mono {d : Int} {A B : Nat} {x : Rat} (hx : Cd d A x) (h : A ≤ B) : Cd d B x := by
  obtain ⟨v, e, hv⟩ := hx
  exact ⟨v, e, by omega⟩
theorem Cd.sz {d : Int} {B s : Nat} {x : Rat} (hx : Cd d B x) (hd : d ≠ 0) (h1 : d.natAbs < 2 ^ s) (h2 : B < 2 ^ s) : Sz s x := by
  obtain ⟨v, rfl, hv⟩ := hx
  exact Sz.frac hd (by omega) h1
theorem Lap_app (b c : Nat) : ∀ (l m : List Room), Lap (l ++ m) b c = Lap l b c + Lap m b c
  | [], m => by show Lap m b c = 0 + Lap m b c; grind
  | r :: l, m => by
    show _ + Lap (l ++ m) b c = (_ + Lap l b c) + Lap m b c
    rw [Lap_app b c l m]; grind
theorem Lap_cd {d : Int} {B : Nat} (b c : Nat) : ∀ (rs : List Room), (∀ r ∈ rs, Cd d B r.2.2) → Cd d (rs.length * B) (Lap rs b c)
  | [], _ => by
    have := Cd.zero d
    show Cd d (0 * B) 0
    rw [Nat.zero_mul]; exact this
  | r :: rs, h => by
    have ih := Lap_cd b c rs fun z hz => h z (List.mem_cons_of_mem _ hz)
    have h1 := h r List.mem_cons_self
    have z : Cd d B 0 := (Cd.zero d).mono (Nat.zero_le _)
    have : Cd d B (if b = r.1 then (if c = r.1 then r.2.2 else if c = r.2.1 then - r.2.2 else 0) else if b = r.2.1 then (if c = r.2.1 then r.2.2 else if c = r.1 then - r.2.2 else 0) else 0) := by
      split
      · split
        · exact h1
        · split
          · exact h1.neg
          · exact z
      · split
        · split
          · exact h1
          · split
            · exact h1.neg
            · exact z
        · exact z
    have := this.add ih
    rw [List.length_cons, Nat.add_mul, Nat.one_mul, Nat.add_comm]
    exact this

/-! ### rooms as data -/
def roomD (r : Room) : D := .tuple [.int r.1, .int r.2.1, fr r.2.2]
def roomsD (rs : List Room) : D := .tuple (rs.map roomD)
def planD (n : Nat) (rs : List Room) : D := .tuple [.int n, roomsD rs]
theorem eqV_nat (a b : Nat) : eqV (V.int (b : Int)) (V.int (a : Int)) = decide (a = b) := by
  by_cases q : a = b
  · subst q
    rw [decide_eq_true rfl]
    simp [eqV]
  · have : ¬ (b : Int) = a := by omega
    rw [decide_eq_false q]
    simp [eqV, this]
theorem dIn_pair (a b c : Nat) : dIn (.int a) (.tuple [.int b, .int c]) = some (.bool (decide (a = b) || decide (a = c))) := by
  have e : dIn (.int (a : Int)) (.tuple [.int (b : Int), .int (c : Int)]) = some (.bool (inV (toV (.int a)) [toV (.int b), toV (.int c)])) := rfl
  rw [e]
  congr 2
  unfold inV toV
  simp [eqV_nat]
theorem dEq_nat (a b : Nat) : dEq (.int a) (.int b) = some (.bool (decide (a = b))) := by
  rw [dEq_int]
  congr 2
  by_cases q : a = b
  · subst q; simp
  · have : ¬ (a : Int) = b := by omega
    simp [q, this]
def pullsBody : MS := (sIf (cV (eOp2 dIn (eVar 2) (eApp mkTup (aCons (eVar 4) (aCons (eVar 5) aNil))))) (sSeq (sAsg (eIf (cV (eOp2 dEq (eVar 2) (eVar 4))) (eVar 5) (eVar 4)) (gSet 7)) (sSeq (sSetIx 3 (eVar 2) (eApp F_plus (aCons (eIxO 3 (eVar 2)) (aCons (eVar 6) aNil)))) (sSetIx 3 (eVar 7) (eApp F_minus (aCons (eIxO 3 (eVar 7)) (aCons (eVar 6) aNil)))))) sNil)
theorem row_set {n k : Nat} (f : Nat → Rat) (x : Rat) (h : k < n) : (rowL n f).set k (fr x) = rowL n (fun j => if j = k then x else f j) := by
  unfold rowL
  rw [set_range _ _ h]
  refine List.map_congr_left fun j _ => ?_
  show (if j = k then fr x else fr (f j)) = fr (if j = k then x else f j)
  split <;> rfl
theorem pulls_step {n b s : Nat} (hb : b < n) (f : Nat → Rat) (r : Room) (h1 : r.1 < n) (h2 : r.2.1 < n) (h3 : r.1 ≠ r.2.1) (hf : ∀ c, c < n → Sz s (f c)) (hp : Sz s r.2.2) (hs : s + s ≤ 9000) (s0 s1 s7 : Sl) :
    ∃ s7', pullsBody [s0, s1, .dat (.int b), .own (.lst (rowL n f)), .dat (.int r.1), .dat (.int r.2.1), .dat (fr r.2.2), s7] = some (.nx, [s0, s1, .dat (.int b), .own (.lst (rowL n (fun c => f c + (if b = r.1 then (if c = r.1 then r.2.2 else if c = r.2.1 then - r.2.2 else 0) else if b = r.2.1 then (if c = r.2.1 then r.2.2 else if c = r.1 then - r.2.2 else 0) else 0)))), .dat (.int r.1), .dat (.int r.2.1), .dat (fr r.2.2), s7']) := by
  by_cases q1 : b = r.1
  · have a1 := F_plus_eq (hf b hb) hp hs
    have a2 := F_minus_eq (hf r.2.1 h2) hp hs
    have e1 : (rowL n (fun j => if j = b then f b + r.2.2 else f j)).length = n := rowL_length _ _
    have e2 : atI (rowL n (fun j => if j = b then f b + r.2.2 else f j)) (r.2.1 : Int) = some (fr (f r.2.1)) := by
      rw [atI_row _ h2, if_neg (by omega)]
    have ef : rowL n (fun j => if j = r.2.1 then f r.2.1 - r.2.2 else if j = b then f b + r.2.2 else f j) = rowL n (fun c => f c + (if b = r.1 then (if c = r.1 then r.2.2 else if c = r.2.1 then - r.2.2 else 0) else if b = r.2.1 then (if c = r.2.1 then r.2.2 else if c = r.1 then - r.2.2 else 0) else 0)) := rowL_congr fun c _ => by grind
    refine ⟨.dat (.int r.2.1), ?_⟩
    unfold pullsBody
    simp only [sSeq, sIf, sNil, sAsg, sRet, sDrop, cV, cAnd, cOr, cNot, cTrue, eOp2, eOp1, eVar, eC, eApp, aCons, aNil, eIf, eAnd, eOr, eNot, eChain, eNeg, asB, dLt, dLe, dGt, dGe, dSub, dIx, dAbs, dMin, dMax, dLen, dList, dTuple, mkTup, mkLst, gSet, QL.gTup, gTupF, unTup, sPar2, xDat, xOwn, xNil, noScr, sOwn, oLst, iSeq, asSeq, iApp, endOf, List.map_cons, List.map_nil, List.length_cons, List.length_nil, List.length_set, List.replicate, List.cons_append, List.nil_append, List.getElem?_cons_zero, List.getElem?_cons_succ, List.getElem?_nil, Option.bind_some, Option.bind_none, Option.map_some, Option.map_none, List.set_cons_zero, List.set_cons_succ, List.set_nil, Bool.false_eq_true, if_false, if_true, ne_eq, not_false_eq_true, not_true_eq_false, and_self, and_true, true_and, Bool.not_true, Bool.not_false, Bool.and_true, Bool.true_and, Nat.reduceAdd, Nat.reduceSub, Nat.reduceLeDiff, Nat.reduceLT, Nat.reduceEqDiff, Nat.lt_irrefl, decide_true, decide_false, isa1, isa2, isa3, isa4, isa5, isa6, isa7, isa8, atI_0, atI_1, atI_2, atI_3, Option.getD_some, ownL, scrAt, dIn_pair, decide_eq_true q1, Bool.true_or, dEq_nat, sSetIx, eIxO, ownL, atI_row f hb, a1, a2, rowL_length, ixN_at hb, ixN_at h2, row_set _ _ hb, row_set _ _ h2, e1, e2, ef]
  · by_cases q2 : b = r.2.1
    · have a1 := F_plus_eq (hf b hb) hp hs
      have a2 := F_minus_eq (hf r.1 h1) hp hs
      have e1 : (rowL n (fun j => if j = b then f b + r.2.2 else f j)).length = n := rowL_length _ _
      have e2 : atI (rowL n (fun j => if j = b then f b + r.2.2 else f j)) (r.1 : Int) = some (fr (f r.1)) := by
        rw [atI_row _ h1, if_neg (by omega)]
      have ef : rowL n (fun j => if j = r.1 then f r.1 - r.2.2 else if j = b then f b + r.2.2 else f j) = rowL n (fun c => f c + (if b = r.1 then (if c = r.1 then r.2.2 else if c = r.2.1 then - r.2.2 else 0) else if b = r.2.1 then (if c = r.2.1 then r.2.2 else if c = r.1 then - r.2.2 else 0) else 0)) := rowL_congr fun c _ => by grind
      refine ⟨.dat (.int r.1), ?_⟩
      unfold pullsBody
      simp only [sSeq, sIf, sNil, sAsg, sRet, sDrop, cV, cAnd, cOr, cNot, cTrue, eOp2, eOp1, eVar, eC, eApp, aCons, aNil, eIf, eAnd, eOr, eNot, eChain, eNeg, asB, dLt, dLe, dGt, dGe, dSub, dIx, dAbs, dMin, dMax, dLen, dList, dTuple, mkTup, mkLst, gSet, QL.gTup, gTupF, unTup, sPar2, xDat, xOwn, xNil, noScr, sOwn, oLst, iSeq, asSeq, iApp, endOf, List.map_cons, List.map_nil, List.length_cons, List.length_nil, List.length_set, List.replicate, List.cons_append, List.nil_append, List.getElem?_cons_zero, List.getElem?_cons_succ, List.getElem?_nil, Option.bind_some, Option.bind_none, Option.map_some, Option.map_none, List.set_cons_zero, List.set_cons_succ, List.set_nil, Bool.false_eq_true, if_false, if_true, ne_eq, not_false_eq_true, not_true_eq_false, and_self, and_true, true_and, Bool.not_true, Bool.not_false, Bool.and_true, Bool.true_and, Nat.reduceAdd, Nat.reduceSub, Nat.reduceLeDiff, Nat.reduceLT, Nat.reduceEqDiff, Nat.lt_irrefl, decide_true, decide_false, isa1, isa2, isa3, isa4, isa5, isa6, isa7, isa8, atI_0, atI_1, atI_2, atI_3, Option.getD_some, ownL, scrAt, dIn_pair, decide_eq_true q2, decide_eq_false q1, Bool.false_or, dEq_nat, sSetIx, eIxO, ownL, atI_row f hb, a1, a2, rowL_length, ixN_at hb, ixN_at h1, row_set _ _ hb, row_set _ _ h1, e1, e2, ef]
    · have ef : rowL n f = rowL n (fun c => f c + (if b = r.1 then (if c = r.1 then r.2.2 else if c = r.2.1 then - r.2.2 else 0) else if b = r.2.1 then (if c = r.2.1 then r.2.2 else if c = r.1 then - r.2.2 else 0) else 0)) := rowL_congr fun c _ => by grind
      refine ⟨s7, ?_⟩
      unfold pullsBody
      simp only [sSeq, sIf, sNil, sAsg, sRet, sDrop, cV, cAnd, cOr, cNot, cTrue, eOp2, eOp1, eVar, eC, eApp, aCons, aNil, eIf, eAnd, eOr, eNot, eChain, eNeg, asB, dLt, dLe, dGt, dGe, dSub, dIx, dAbs, dMin, dMax, dLen, dList, dTuple, mkTup, mkLst, gSet, QL.gTup, gTupF, unTup, sPar2, xDat, xOwn, xNil, noScr, sOwn, oLst, iSeq, asSeq, iApp, endOf, List.map_cons, List.map_nil, List.length_cons, List.length_nil, List.length_set, List.replicate, List.cons_append, List.nil_append, List.getElem?_cons_zero, List.getElem?_cons_succ, List.getElem?_nil, Option.bind_some, Option.bind_none, Option.map_some, Option.map_none, List.set_cons_zero, List.set_cons_succ, List.set_nil, Bool.false_eq_true, if_false, if_true, ne_eq, not_false_eq_true, not_true_eq_false, and_self, and_true, true_and, Bool.not_true, Bool.not_false, Bool.and_true, Bool.true_and, Nat.reduceAdd, Nat.reduceSub, Nat.reduceLeDiff, Nat.reduceLT, Nat.reduceEqDiff, Nat.lt_irrefl, decide_true, decide_false, isa1, isa2, isa3, isa4, isa5, isa6, isa7, isa8, atI_0, atI_1, atI_2, atI_3, Option.getD_some, ownL, scrAt, dIn_pair, decide_eq_false q1, decide_eq_false q2, Bool.false_or]
      rw [← ef]
theorem take_get {α : Type} {l : List α} {i : Nat} {a : α} (h : l[i]? = some a) : l.take (i + 1) = l.take i ++ [a] := by
  rw [List.take_add_one, h]; rfl
theorem rep_flat {n : Nat} : (List.replicate n [fr 0]).flatten = rowL n (fun _ => 0) := by
  unfold rowL
  induction n with
  | zero => rfl
  | succ n ih => rw [List.replicate_succ', List.flatten_append, ih, List.range_succ, List.map_append]; rfl
theorem F_pulls_of_eq {n b s B : Nat} {d : Int} {rs : List Room} (hb : b < n) (hn : n ≤ 100) (hi : In n rs) (hd : d ≠ 0) (hd2 : d.natAbs < 2 ^ s) (hc : ∀ r ∈ rs, Cd d B r.2.2) (hB : rs.length * B < 2 ^ s) (hB1 : B < 2 ^ s) (hs : s + s ≤ 9000) : F_pulls_of [.int n, roomsD rs, .int b] = some (rowD n (Lap rs b)) := by
  obtain ⟨ρ', e, s4, s5, s6, s7, rfl⟩ := forM_inv (g := gTup [(gSet 4), (gSet 5), (gSet 6)]) (b := pullsBody) roomD rs (fun i ρ => ∃ s4 s5 s6 s7, ρ = [.dat (.int n), .dat (roomsD rs), .dat (.int b), .own (.lst (rowL n (Lap (rs.take i) b))), s4, s5, s6, s7])
    [.dat (.int n), .dat (roomsD rs), .dat (.int b), .own (.lst (rowL n (fun _ => 0))), .un, .un, .un, .un]
    (fun i r ρ hx hp => by
      obtain ⟨s4, s5, s6, s7, rfl⟩ := hp
      have hm : r ∈ rs := List.mem_of_getElem? hx
      obtain ⟨h1, h2, h3, h4⟩ := hi r hm
      have hlen : (rs.take i).length * B ≤ rs.length * B := Nat.mul_le_mul_right _ (by rw [List.length_take]; omega)
      obtain ⟨s7', e1⟩ := pulls_step (s := s) hb (Lap (rs.take i) b) r h1 h2 h3 (fun c _ => (Lap_cd b c (rs.take i) fun z hz => hc z (List.mem_of_mem_take hz)).sz hd hd2 (by omega)) ((hc r hm).sz hd hd2 hB1) hs (.dat (.int n)) (.dat (roomsD rs)) s7
      refine ⟨_, _, rfl, e1, .dat (.int r.1), .dat (.int r.2.1), .dat (fr r.2.2), s7', ?_⟩
      rw [take_get hx]
      congr 6
      refine rowL_congr fun c _ => ?_
      rw [Lap_app]
      congr 1
      show _ = _ + (0 : Rat)
      grind)
    ⟨.un, .un, .un, .un, rfl⟩
  rw [List.take_length] at e
  have hr1 : (0 : Int) ≤ n := by omega
  have hr2 : (n : Int) ≤ 1000 := by omega
  unfold pullsBody at e
  unfold F_pulls_of runF B_pulls_of
  rw [← fr0]
  simp only [sSeq, sIf, sNil, sAsg, sRet, sDrop, cV, cAnd, cOr, cNot, cTrue, eOp2, eOp1, eVar, eC, eApp, aCons, aNil, eIf, eAnd, eOr, eNot, eChain, eNeg, asB, dLt, dLe, dGt, dGe, dSub, dIx, dAbs, dMin, dMax, dLen, dList, dTuple, mkTup, mkLst, gSet, QL.gTup, gTupF, unTup, sPar2, xDat, xOwn, xNil, noScr, sOwn, oLst, iSeq, asSeq, iApp, endOf, List.map_cons, List.map_nil, List.length_cons, List.length_nil, List.length_set, List.replicate, List.cons_append, List.nil_append, List.getElem?_cons_zero, List.getElem?_cons_succ, List.getElem?_nil, Option.bind_some, Option.bind_none, Option.map_some, Option.map_none, List.set_cons_zero, List.set_cons_succ, List.set_nil, Bool.false_eq_true, if_false, if_true, ne_eq, not_false_eq_true, not_true_eq_false, and_self, and_true, true_and, Bool.not_true, Bool.not_false, Bool.and_true, Bool.true_and, Nat.reduceAdd, Nat.reduceSub, Nat.reduceLeDiff, Nat.reduceLT, Nat.reduceEqDiff, Nat.lt_irrefl, decide_true, decide_false, isa1, isa2, isa3, isa4, isa5, isa6, isa7, isa8, atI_0, atI_1, atI_2, atI_3, Option.getD_some, ownL, scrAt, oRep, hr1, hr2, Int.toNat_natCast, rep_flat, sFor, roomsD]
  simp only [roomsD] at e
  simp only [e, sSeq, sIf, sNil, sAsg, sRet, sDrop, cV, cAnd, cOr, cNot, cTrue, eOp2, eOp1, eVar, eC, eApp, aCons, aNil, eIf, eAnd, eOr, eNot, eChain, eNeg, asB, dLt, dLe, dGt, dGe, dSub, dIx, dAbs, dMin, dMax, dLen, dList, dTuple, mkTup, mkLst, gSet, QL.gTup, gTupF, unTup, sPar2, xDat, xOwn, xNil, noScr, sOwn, oLst, iSeq, asSeq, iApp, endOf, List.map_cons, List.map_nil, List.length_cons, List.length_nil, List.length_set, List.replicate, List.cons_append, List.nil_append, List.getElem?_cons_zero, List.getElem?_cons_succ, List.getElem?_nil, Option.bind_some, Option.bind_none, Option.map_some, Option.map_none, List.set_cons_zero, List.set_cons_succ, List.set_nil, Bool.false_eq_true, if_false, if_true, ne_eq, not_false_eq_true, not_true_eq_false, and_self, and_true, true_and, Bool.not_true, Bool.not_false, Bool.and_true, Bool.true_and, Nat.reduceAdd, Nat.reduceSub, Nat.reduceLeDiff, Nat.reduceLT, Nat.reduceEqDiff, Nat.lt_irrefl, decide_true, decide_false, isa1, isa2, isa3, isa4, isa5, isa6, isa7, isa8, atI_0, atI_1, atI_2, atI_3, Option.getD_some, ownL, scrAt, rowD]

end QP
set_option Elab.async false
set_option linter.all false
set_option maxRecDepth 100000
set_option maxHeartbeats 1000000
namespace QP
open PySem PySem.Spec PyProof.Rows L2 QL
/-! ### told levels -/
abbrev Fx := List (Nat × Rat)
def fxKv (fx : Fx) : List (D × D) := fx.map fun p => (.int (p.1 : Int), fr p.2)
def fxD (fx : Fx) : D := .dict (fxKv fx)
def keys (fx : Fx) : List Nat := fx.map Prod.fst
theorem getD_in : ∀ (fx : Fx) (f : Nat) (v : Rat), (keys fx).Nodup → (f, v) ∈ fx → QL.getD (fxKv fx) (f : Int) = some (fr v)
  | [], _, _, _, h => nomatch h
  | (g, w) :: fx, f, v, hn, h => by
    have hn' : ¬ g ∈ keys fx ∧ (keys fx).Nodup := by
      have : (g :: keys fx).Nodup := hn
      rw [List.nodup_cons] at this
      exact this
    show (if (g : Int) = f then some (fr w) else QL.getD (fxKv fx) (f : Int)) = _
    rcases List.mem_cons.mp h with q | q
    · cases q
      rw [if_pos rfl]
    · have : f ≠ g := fun z => hn'.1 (by rw [← z]; exact List.mem_map_of_mem (f := Prod.fst) q)
      rw [if_neg (by omega)]
      exact getD_in fx f v hn'.2 q
theorem getD_not : ∀ (fx : Fx) (f : Nat), ¬ f ∈ keys fx → QL.getD (fxKv fx) (f : Int) = none
  | [], _, _ => rfl
  | (g, w) :: fx, f, h => by
    show (if (g : Int) = f then some (fr w) else QL.getD (fxKv fx) (f : Int)) = _
    have h' : ¬ f ∈ g :: keys fx := h
    rw [List.mem_cons] at h'
    rw [if_neg (by omega)]
    exact getD_not fx f fun z => h' (.inr z)
theorem dNotInK_fx (fx : Fx) (hn : (keys fx).Nodup) (b : Nat) : dNotInK (.int b) (fxD fx) = some (.bool (!decide (b ∈ keys fx))) := by
  show some (PyData.bool (!(QL.getD (fxKv fx) (b : Int)).isSome)) = _
  by_cases q : b ∈ keys fx
  · obtain ⟨⟨f, v⟩, h1, rfl⟩ := List.mem_map.mp q
    rw [getD_in fx f v hn h1, decide_eq_true q]; rfl
  · rw [getD_not fx b q, decide_eq_false q]; rfl
def freeL (n : Nat) (fx : Fx) : List Nat := (List.range n).filter fun b => !decide (b ∈ keys fx)
theorem free_nodup (n : Nat) (fx : Fx) : (freeL n fx).Nodup := List.Pairwise.filter _ List.nodup_range
theorem free_mem {n : Nat} {fx : Fx} {b : Nat} : b ∈ freeL n fx ↔ b < n ∧ ¬ b ∈ keys fx := by
  unfold freeL
  rw [List.mem_filter, List.mem_range]
  simp
theorem free_len (n : Nat) (fx : Fx) : (freeL n fx).length ≤ n := by
  have := List.length_filter_le (fun b => !decide (b ∈ keys fx)) (List.range n)
  rw [List.length_range] at this
  exact this
theorem map_getD {α : Type} (g : Nat → α) (l : List Nat) : l.map g = (List.range l.length).map fun j => g (l.getD j 0) := by
  refine List.ext_getElem? fun j => ?_
  rw [List.getElem?_map, List.getElem?_map]
  by_cases h : j < l.length
  · rw [List.getElem?_range h, List.getElem?_eq_getElem h]
    simp [List.getD_eq_getElem?_getD, List.getElem?_eq_getElem h]
  · rw [List.getElem?_eq_none (by omega), List.getElem?_eq_none (by simpa using h)]; rfl
theorem getD_mem {l : List Nat} {j : Nat} (h : j < l.length) : l.getD j 0 ∈ l := by
  rw [List.getD_eq_getElem?_getD, List.getElem?_eq_getElem h]
  exact List.getElem_mem h
/-- what is taken off for the told ones -/
def fsum (rs : List Room) (b : Nat) : Fx → Rat
  | [] => 0
  | p :: fx => Lap rs b p.1 * p.2 + fsum rs b fx
theorem fsum_app (rs : List Room) (b : Nat) : ∀ l m : Fx, fsum rs b (l ++ m) = fsum rs b l + fsum rs b m
  | [], m => by show fsum rs b m = 0 + fsum rs b m; grind
  | p :: l, m => by
    show _ + fsum rs b (l ++ m) = (_ + fsum rs b l) + _
    rw [fsum_app rs b l m]; grind
theorem fsum_ls (rs : List Room) (b : Nat) (u : Nat → Rat) : ∀ fx : Fx, (∀ p ∈ fx, u p.1 = p.2) → fsum rs b fx = ls (keys fx) (fun c => Lap rs b c * u c)
  | [], _ => rfl
  | p :: fx, h => by
    show _ + fsum rs b fx = Lap rs b p.1 * u p.1 + ls (keys fx) _
    rw [h p List.mem_cons_self, fsum_ls rs b u fx fun q hq => h q (List.mem_cons_of_mem _ hq)]
def zo (fx : Fx) : Prop := ∀ p ∈ fx, p.2 = 0 ∨ p.2 = 1
theorem fsum_cd {d : Int} {B : Nat} {rs : List Room} (b : Nat) (hc : ∀ r ∈ rs, Cd d B r.2.2) : ∀ fx : Fx, zo fx → Cd d (fx.length * (rs.length * B)) (fsum rs b fx)
  | [], _ => by
    show Cd d (0 * _) 0
    rw [Nat.zero_mul]; exact Cd.zero d
  | p :: fx, h => by
    have ih := fsum_cd b hc fx fun q hq => h q (List.mem_cons_of_mem _ hq)
    have h1 : Cd d (rs.length * B) (Lap rs b p.1 * p.2) := by
      rcases h p List.mem_cons_self with q | q
      · rw [q, Rat.mul_zero]; exact (Cd.zero d).mono (Nat.zero_le _)
      · rw [q, Rat.mul_one]; exact Lap_cd b p.1 rs hc
    have := h1.add ih
    rw [List.length_cons, Nat.add_mul, Nat.one_mul, Nat.add_comm]
    exact this
/-- the rows that are solved -/
def lvA (rs : List Room) (lv : Nat → Rat) (fx : Fx) (n : Nat) : Mat := fun i j => if j < (freeL n fx).length then Lap rs ((freeL n fx).getD i 0) ((freeL n fx).getD j 0) else lv ((freeL n fx).getD i 0) - fsum rs ((freeL n fx).getD i 0) fx
theorem lvA_inj {n : Nat} {rs : List Room} {lv : Nat → Rat} {fx : Fx} (h : Plan n rs) (hk : ∀ f ∈ keys fx, f < n) (h0 : fx ≠ []) : Inj (lvA rs lv fx n) (freeL n fx).length := by
  intro y hy hm
  let w : Nat → Rat := fun c => if c ∈ freeL n fx then y ((freeL n fx).idxOf c) else 0
  have hw : ∀ j, j < (freeL n fx).length → w ((freeL n fx).getD j 0) = y j := fun j hj => by
    show (if (freeL n fx).getD j 0 ∈ freeL n fx then y ((freeL n fx).idxOf ((freeL n fx).getD j 0)) else 0) = y j
    rw [if_pos (getD_mem hj)]
    congr 1
    rw [List.getD_eq_getElem?_getD, List.getElem?_eq_getElem hj]
    exact List.Nodup.idxOf_getElem (free_nodup n fx) j hj
  obtain ⟨f, hf⟩ : ∃ f, f ∈ keys fx := by
    cases fx with
    | nil => exact absurd rfl h0
    | cons p r => exact ⟨p.1, List.mem_cons_self⟩
  have z := uniq0 (w := w) (fx := fun b => b ∈ keys fx) h f (hk f hf) hf
    (fun b hb q => by
      show (if b ∈ freeL n fx then _ else 0) = 0
      rw [if_neg fun z => (free_mem.mp z).2 q])
    (fun b hb q => by
      have hbm : b ∈ freeL n fx := free_mem.mpr ⟨hb, q⟩
      have hlt := List.idxOf_lt_length_of_mem hbm
      have eb : (freeL n fx).getD ((freeL n fx).idxOf b) 0 = b := by
        rw [List.getD_eq_getElem?_getD, List.getElem?_eq_getElem hlt]
        exact List.getElem_idxOf hlt
      have hh := hy _ hlt
      rw [net_lap w b h.inn]
      have e1 : sm n (fun c => Lap rs b c * w c) = sm n (fun c => if c ∈ freeL n fx then Lap rs b c * w c else 0) := sm_congr fun c _ => by
        by_cases q : c ∈ freeL n fx
        · rw [if_pos q]
        · have : w c = 0 := by show (if c ∈ freeL n fx then _ else 0) = 0; rw [if_neg q]
          rw [if_neg q, this]; grind
      rw [e1, ls_ind _ _ (free_nodup n fx) (fun c hc => (free_mem.mp hc).1), ls_sm]
      have e2 : sm ((freeL n fx).length + 1) (fun j => lvA rs lv fx n ((freeL n fx).idxOf b) j * y j) = sm (freeL n fx).length (fun j => lvA rs lv fx n ((freeL n fx).idxOf b) j * y j) + lvA rs lv fx n ((freeL n fx).idxOf b) (freeL n fx).length * y (freeL n fx).length := rfl
      rw [e2, hm, Rat.mul_zero] at hh
      rw [← sm_congr (f := fun j => lvA rs lv fx n ((freeL n fx).idxOf b) j * y j) fun j hj => by
        unfold lvA
        rw [if_pos hj, eb, hw j hj]]
      grind)
  intro j hj
  rw [← hw j hj]
  exact z _ (free_mem.mp (getD_mem hj)).1
theorem lvA_sz {n s B Bl : Nat} {d : Int} {rs : List Room} {lv : Nat → Rat} {fx : Fx} (hd : d ≠ 0) (hd2 : d.natAbs < 2 ^ s) (hc : ∀ r ∈ rs, Cd d B r.2.2) (hz : zo fx) (hlv : ∀ b, b < n → Cd d Bl (lv b)) (hB : Bl + (fx.length + 1) * (rs.length * B) < 2 ^ s) : SzM s (lvA rs lv fx n) (freeL n fx).length := by
  have hB' : Bl + fx.length * (rs.length * B) + rs.length * B < 2 ^ s := by rw [Nat.add_mul, Nat.one_mul] at hB; omega
  have key : ∀ i j, i < (freeL n fx).length ∧ j < (freeL n fx).length + 1 → Cd d (Bl + (fx.length + 1) * (rs.length * B)) (lvA rs lv fx n i j) := fun i j hij => by
    unfold lvA
    split
    · refine (Lap_cd _ _ rs hc).mono ?_
      rw [Nat.add_mul, Nat.one_mul]; omega
    · refine ((hlv _ (free_mem.mp (getD_mem hij.1)).1).sub (fsum_cd _ hc fx hz)).mono ?_
      rw [Nat.add_mul, Nat.one_mul]; omega
  refine ⟨d, fun i j => if h : i < (freeL n fx).length ∧ j < (freeL n fx).length + 1 then Classical.choose (key i j h) else 0, hd, hd2, fun i hi j hj => ?_⟩
  have hij : i < (freeL n fx).length ∧ j < (freeL n fx).length + 1 := ⟨hi, hj⟩
  simp only [dif_pos hij]
  have := Classical.choose_spec (key i j hij)
  exact ⟨this.1, by omega⟩

end QP
set_option Elab.async false
set_option linter.all false
set_option maxRecDepth 100000
set_option maxHeartbeats 1000000
namespace QP
open PySem PySem.Spec PyProof.Rows L2 QL
theorem row_succ (m : Nat) (f : Nat → Rat) : rowL (m + 1) f = rowL m f ++ [fr (f m)] := by
  unfold rowL
  rw [List.range_succ, List.map_append]; rfl
def goalBody : MS := (sAsg (eApp F_minus (aCons (eVar 10) (aCons (eApp F_times (aCons (eOp2 dIx (eVar 9) (eVar 11)) (aCons (eOp2 dIxD (eVar 2) (eVar 11)) aNil))) aNil))) (gSet 10))
def rowBody : MS := (sSeq (sAsg (eApp F_pulls_of (aCons (eVar 0) (aCons (eVar 1) (aCons (eVar 6) aNil)))) (gSet 9)) (sSeq (sAsg (eOp2 dIx (eVar 3) (eVar 6)) (gSet 10)) (sSeq (sFor (iKeysD (eVar 2)) (gSet 11) goalBody) (sDrop (eAppend 5 (eOp2 dAdd (eLc [11] (iSeq (eVar 4)) (gSet 11) cTrue (eOp2 dIx (eVar 9) (eVar 11))) (eApp mkLst (aCons (eVar 10) aNil))))))))
theorem Sz01 {v : Rat} (h : v = 0 ∨ v = 1) : Sz 1 v := by
  rcases h with rfl | rfl
  · exact ⟨by decide, by decide⟩
  · exact ⟨by decide, by decide⟩
theorem keys_map (fx : Fx) : keysOf (fxKv fx) = fx.map fun p => .int (p.1 : Int) := by
  unfold keysOf fxKv
  rw [List.map_map]; rfl
structure LvOk (n s B Bl : Nat) (d : Int) (rs : List Room) (lv : Nat → Rat) (fx : Fx) : Prop where
  plan : Plan n rs
  nz : d ≠ 0
  dl : d.natAbs < 2 ^ s
  cd : ∀ r ∈ rs, Cd d B r.2.2
  zo : zo fx
  lv : ∀ b, b < n → Cd d Bl (lv b)
  big : Bl + (fx.length + 1) * (rs.length * B) < 2 ^ s
  sml : s + s ≤ 8990
  nd : (keys fx).Nodup
  lt : ∀ f ∈ keys fx, f < n
  ne : fx ≠ []
theorem LvOk.b1 {n s B Bl : Nat} {d : Int} {rs : List Room} {lv : Nat → Rat} {fx : Fx} (h : LvOk n s B Bl d rs lv fx) : rs.length * B < 2 ^ s ∧ B < 2 ^ s ∧ ∀ k, k ≤ fx.length → Bl + k * (rs.length * B) < 2 ^ s := by
  have hb := h.big
  rw [Nat.add_mul, Nat.one_mul] at hb
  have h1 := h.plan.one
  have h2 : B ≤ rs.length * B := Nat.le_mul_of_pos_left _ (by omega)
  refine ⟨by omega, by omega, fun k hk => ?_⟩
  have := Nat.mul_le_mul_right (rs.length * B) hk
  omega
theorem goal_loop {n s B Bl b : Nat} {d : Int} {rs : List Room} {lv : Nat → Rat} {fx : Fx} (h : LvOk n s B Bl d rs lv fx) (hb : b < n) (s0 s1 s3 s4 s5 s6 s7 s8 s11 s12 : Sl) (h11 : ud s11) :
    ∃ s11', ud s11' ∧ sFor (iKeysD (eVar 2)) (gSet 11) goalBody [s0, s1, .dat (fxD fx), s3, s4, s5, s6, s7, s8, .dat (rowD n (Lap rs b)), .dat (fr (lv b)), s11, s12] = some (.nx, [s0, s1, .dat (fxD fx), s3, s4, s5, s6, s7, s8, .dat (rowD n (Lap rs b)), .dat (fr (lv b - fsum rs b fx)), s11', s12]) := by
  obtain ⟨b1, b2, b3⟩ := h.b1
  obtain ⟨ρ', e, s11', h11', rfl⟩ := forM_inv (g := gSet 11) (b := goalBody) (fun p : Nat × Rat => .int (p.1 : Int)) fx (fun i ρ => ∃ s11, ud s11 ∧ ρ = [s0, s1, .dat (fxD fx), s3, s4, s5, s6, s7, s8, .dat (rowD n (Lap rs b)), .dat (fr (lv b - fsum rs b (fx.take i))), s11, s12])
    [s0, s1, .dat (fxD fx), s3, s4, s5, s6, s7, s8, .dat (rowD n (Lap rs b)), .dat (fr (lv b)), s11, s12]
    (fun i p ρ hx hp => by
      obtain ⟨s11, _, rfl⟩ := hp
      have hm : p ∈ fx := List.mem_of_getElem? hx
      have hlt : p.1 < n := h.lt p.1 (List.mem_map_of_mem hm)
      have z1 : Sz s (Lap rs b p.1) := (Lap_cd b p.1 rs h.cd).sz h.nz h.dl b1
      have z2 : Sz 1 p.2 := Sz01 (h.zo p hm)
      have hil : i ≤ fx.length := by
        have := (List.getElem?_eq_some_iff.mp hx).1
        omega
      have z3 : Sz s (lv b - fsum rs b (fx.take i)) := by
        refine ((h.lv b hb).sub (fsum_cd b h.cd (fx.take i) fun q hq => h.zo q (List.mem_of_mem_take hq))).sz h.nz h.dl ?_
        rw [List.length_take, Nat.min_eq_left hil]
        exact b3 i hil
      have hs := h.sml
      have e1 := F_times_eq z1 z2 (by omega)
      have e2 := F_minus_eq z3 (z1.mul z2) (by omega)
      have e3 : dIxD (fxD fx) (.int (p.1 : Int)) = some (fr p.2) := getD_in fx p.1 p.2 h.nd hm
      refine ⟨_, _, rfl, ?_, .dat (.int (p.1 : Int)), .inr ⟨_, rfl⟩, rfl⟩
      unfold goalBody
      simp only [sSeq, sIf, sNil, sAsg, sRet, sDrop, cV, cAnd, cOr, cNot, cTrue, eOp2, eOp1, eVar, eC, eApp, aCons, aNil, eIf, eAnd, eOr, eNot, eChain, eNeg, asB, dLt, dLe, dGt, dGe, dSub, dIx, dAbs, dMin, dMax, dLen, dList, dTuple, mkTup, mkLst, gSet, QL.gTup, gTupF, unTup, sPar2, xDat, xOwn, xNil, noScr, sOwn, oLst, iSeq, asSeq, iApp, endOf, List.map_cons, List.map_nil, List.length_cons, List.length_nil, List.length_set, List.replicate, List.cons_append, List.nil_append, List.getElem?_cons_zero, List.getElem?_cons_succ, List.getElem?_nil, Option.bind_some, Option.bind_none, Option.map_some, Option.map_none, List.set_cons_zero, List.set_cons_succ, List.set_nil, Bool.false_eq_true, if_false, if_true, ne_eq, not_false_eq_true, not_true_eq_false, and_self, and_true, true_and, Bool.not_true, Bool.not_false, Bool.and_true, Bool.true_and, Nat.reduceAdd, Nat.reduceSub, Nat.reduceLeDiff, Nat.reduceLT, Nat.reduceEqDiff, Nat.lt_irrefl, decide_true, decide_false, isa1, isa2, isa3, isa4, isa5, isa6, isa7, isa8, atI_0, atI_1, atI_2, atI_3, Option.getD_some, ownL, scrAt, rowD, atI_row (Lap rs b) hlt, e3, e1, e2]
      rw [take_get hx, fsum_app]
      have : lv b - fsum rs b (fx.take i) - Lap rs b p.1 * p.2 = lv b - (fsum rs b (fx.take i) + fsum rs b [p]) := by
        show _ = lv b - (fsum rs b (fx.take i) + (Lap rs b p.1 * p.2 + 0))
        grind
      rw [this])
    ⟨s11, h11, by
      have : lv b - fsum rs b (List.take 0 fx) = lv b := by show lv b - 0 = lv b; grind
      rw [this]⟩
  rw [List.take_length] at e
  refine ⟨s11', h11', ?_⟩
  have e0 : iKeysD (eVar 2) [s0, s1, .dat (fxD fx), s3, s4, s5, s6, s7, s8, .dat (rowD n (Lap rs b)), .dat (fr (lv b)), s11, s12] = some (fx.map (fun p : Nat × Rat => .int (p.1 : Int)), [s0, s1, .dat (fxD fx), s3, s4, s5, s6, s7, s8, .dat (rowD n (Lap rs b)), .dat (fr (lv b)), s11, s12]) := by
    rw [← keys_map]; rfl
  unfold sFor
  rw [e0]
  exact e
theorem row_body {n s B Bl i : Nat} {d : Int} {rs : List Room} {lv : Nat → Rat} {fx : Fx} (h : LvOk n s B Bl d rs lv fx) (hi : i < (freeL n fx).length) (acc : List D) (ha : acc.length ≤ 100) (s7 s8 s9 s10 s11 s12 : Sl) (h11 : ud s11) :
    ∃ s9' s10' s11', ud s11' ∧ rowBody [.dat (.int n), .dat (roomsD rs), .dat (fxD fx), .dat (rowD n lv), .dat (.list ((freeL n fx).map fun (c : Nat) => .int c)), .own (.lst acc), .dat (.int ((freeL n fx).getD i 0 : Nat)), s7, s8, s9, s10, s11, s12]
      = some (.nx, [.dat (.int n), .dat (roomsD rs), .dat (fxD fx), .dat (rowD n lv), .dat (.list ((freeL n fx).map fun (c : Nat) => .int c)), .own (.lst (acc ++ [rowD ((freeL n fx).length + 1) (lvA rs lv fx n i)])), .dat (.int ((freeL n fx).getD i 0 : Nat)), s7, s8, s9', s10', s11', s12]) := by
  obtain ⟨b1, b2, b3⟩ := h.b1
  have hsm := h.sml
  have hb : (freeL n fx).getD i 0 < n := (free_mem.mp (getD_mem hi)).1
  have h6 := h.plan.six
  have e1 := F_pulls_of_eq (b := (freeL n fx).getD i 0) hb (by omega) h.plan.inn h.nz h.dl h.cd b1 b2 (by omega)
  obtain ⟨s11', h11', e2⟩ := goal_loop h hb (.dat (.int n)) (.dat (roomsD rs)) (.dat (rowD n lv)) (.dat (.list ((freeL n fx).map fun (c : Nat) => .int c))) (.own (.lst acc)) (.dat (.int ((freeL n fx).getD i 0 : Nat))) s7 s8 s11 s12 h11
  have hfl := free_len n fx
  have key := eLcT (vs := [11]) (ρ := [.dat (.int n), .dat (roomsD rs), .dat (fxD fx), .dat (rowD n lv), .dat (.list ((freeL n fx).map fun (c : Nat) => .int c)), .own (.lst acc), .dat (.int ((freeL n fx).getD i 0 : Nat)), s7, s8, .dat (rowD n (Lap rs ((freeL n fx).getD i 0))), .dat (fr (lv ((freeL n fx).getD i 0) - fsum rs ((freeL n fx).getD i 0) fx)), s11', s12])
    (it := iSeq (eVar 4)) (tg := gSet 11) (m := eOp2 dIx (eVar 9) (eVar 11)) (fun (c : Nat) => .int c) (fun c => fr (Lap rs ((freeL n fx).getD i 0) c))
    (fun c => [.dat (.int n), .dat (roomsD rs), .dat (fxD fx), .dat (rowD n lv), .dat (.list ((freeL n fx).map fun (c : Nat) => .int c)), .own (.lst acc), .dat (.int ((freeL n fx).getD i 0 : Nat)), s7, s8, .dat (rowD n (Lap rs ((freeL n fx).getD i 0))), .dat (fr (lv ((freeL n fx).getD i 0) - fsum rs ((freeL n fx).getD i 0) fx)), .dat (.int c), s12])
    (freeL n fx) rfl (by omega)
    (fun c hc => by
      have hcn := (free_mem.mp hc).1
      refine ⟨rfl, ?_, rfl⟩
      simp only [sSeq, sIf, sNil, sAsg, sRet, sDrop, cV, cAnd, cOr, cNot, cTrue, eOp2, eOp1, eVar, eC, eApp, aCons, aNil, eIf, eAnd, eOr, eNot, eChain, eNeg, asB, dLt, dLe, dGt, dGe, dSub, dIx, dAbs, dMin, dMax, dLen, dList, dTuple, mkTup, mkLst, gSet, QL.gTup, gTupF, unTup, sPar2, xDat, xOwn, xNil, noScr, sOwn, oLst, iSeq, asSeq, iApp, endOf, List.map_cons, List.map_nil, List.length_cons, List.length_nil, List.length_set, List.replicate, List.cons_append, List.nil_append, List.getElem?_cons_zero, List.getElem?_cons_succ, List.getElem?_nil, Option.bind_some, Option.bind_none, Option.map_some, Option.map_none, List.set_cons_zero, List.set_cons_succ, List.set_nil, Bool.false_eq_true, if_false, if_true, ne_eq, not_false_eq_true, not_true_eq_false, and_self, and_true, true_and, Bool.not_true, Bool.not_false, Bool.and_true, Bool.true_and, Nat.reduceAdd, Nat.reduceSub, Nat.reduceLeDiff, Nat.reduceLT, Nat.reduceEqDiff, Nat.lt_irrefl, decide_true, decide_false, isa1, isa2, isa3, isa4, isa5, isa6, isa7, isa8, atI_0, atI_1, atI_2, atI_3, Option.getD_some, ownL, scrAt, rowD, atI_row (Lap rs ((freeL n fx).getD i 0)) hcn])
    (by rcases h11' with rfl | ⟨d, rfl⟩ <;> rfl)
  have er : (freeL n fx).map (fun c => fr (Lap rs ((freeL n fx).getD i 0) c)) ++ [fr (lv ((freeL n fx).getD i 0) - fsum rs ((freeL n fx).getD i 0) fx)] = rowL ((freeL n fx).length + 1) (lvA rs lv fx n i) := by
    rw [row_succ]
    congr 1
    · rw [map_getD]
      unfold rowL
      refine List.map_congr_left fun j hj => ?_
      unfold lvA
      rw [if_pos (List.mem_range.mp hj)]
    · unfold lvA
      rw [if_neg (by omega)]
  refine ⟨.dat (rowD n (Lap rs ((freeL n fx).getD i 0))), .dat (fr (lv ((freeL n fx).getD i 0) - fsum rs ((freeL n fx).getD i 0) fx)), s11', h11', ?_⟩
  have hlen : ((freeL n fx).map fun c => fr (Lap rs ((freeL n fx).getD i 0) c)).length + 1 ≤ 1000000 := by
    rw [List.length_map]; omega
  unfold rowBody
  simp only [sSeq, sAsg, eApp, aCons, aNil, eVar, List.getElem?_cons_zero, List.getElem?_cons_succ, Option.bind_some, Option.map_some, e1, gSet, List.set_cons_succ, List.set_cons_zero, eOp2, rowD, dIx, atI_row lv hb]
  simp only [rowD] at e2 key
  rw [e2]
  simp only [Option.bind_some, sDrop, eAppend, ownL, List.getElem?_cons_zero, List.getElem?_cons_succ, eOp2, key, eApp, aCons, aNil, eVar, Option.map_some, mkLst, dAdd, List.length_singleton, List.length_cons, List.length_nil, Nat.zero_add, show (1 : Nat) ≤ 1000000 from by decide, if_true]
  rw [if_pos hlen]
  simp only [Option.map_some, Option.bind_some, ownL, List.getElem?_cons_zero, List.getElem?_cons_succ, if_pos (show acc.length < 1000000 by omega), List.set_cons_succ, List.set_cons_zero, er]

end QP
set_option Elab.async false
set_option linter.all false
set_option maxRecDepth 100000
set_option maxHeartbeats 1000000
namespace QP
open PySem PySem.Spec PyProof.Rows L2 QL
theorem nodup_inj {l : List Nat} (h : l.Nodup) {i j : Nat} (hi : i < l.length) (hj : j < l.length) (e : l[i] = l[j]) : i = j := by
  rw [← List.Nodup.idxOf_getElem h i hi, ← List.Nodup.idxOf_getElem h j hj, e]
theorem lv_rows {n s B Bl : Nat} {d : Int} {rs : List Room} {lv : Nat → Rat} {fx : Fx} (h : LvOk n s B Bl d rs lv fx) :
    ∃ s6 s9 s10 s11, sFor (iSeq (eVar 4)) (gSet 6) rowBody [.dat (.int n), .dat (roomsD rs), .dat (fxD fx), .dat (rowD n lv), .dat (.list ((freeL n fx).map fun (c : Nat) => .int c)), .own (.lst []), .un, .un, .un, .un, .un, .un, .un]
      = some (.nx, [.dat (.int n), .dat (roomsD rs), .dat (fxD fx), .dat (rowD n lv), .dat (.list ((freeL n fx).map fun (c : Nat) => .int c)), .own (.lst (matL (freeL n fx).length (lvA rs lv fx n))), s6, .un, .un, s9, s10, s11, .un]) := by
  have hfl := free_len n fx
  have h6 := h.plan.six
  obtain ⟨ρ', e, s6, s9, s10, s11, _, rfl⟩ := forM_inv (g := gSet 6) (b := rowBody) (fun (j : Nat) => .int ((freeL n fx).getD j 0 : Nat)) (List.range (freeL n fx).length)
    (fun i ρ => ∃ s6 s9 s10 s11, ud s11 ∧ ρ = [.dat (.int n), .dat (roomsD rs), .dat (fxD fx), .dat (rowD n lv), .dat (.list ((freeL n fx).map fun (c : Nat) => .int c)), .own (.lst ((List.range i).map fun i => rowD ((freeL n fx).length + 1) (lvA rs lv fx n i))), s6, .un, .un, s9, s10, s11, .un])
    [.dat (.int n), .dat (roomsD rs), .dat (fxD fx), .dat (rowD n lv), .dat (.list ((freeL n fx).map fun (c : Nat) => .int c)), .own (.lst []), .un, .un, .un, .un, .un, .un, .un]
    (fun i x ρ hx hp => by
      obtain ⟨rfl, hi⟩ := range_get hx
      obtain ⟨s6, s9, s10, s11, h11, rfl⟩ := hp
      obtain ⟨s9', s10', s11', h11', e1⟩ := row_body h hi ((List.range x).map fun i => rowD ((freeL n fx).length + 1) (lvA rs lv fx n i)) (by simp; omega) .un .un s9 s10 s11 .un h11
      refine ⟨_, _, rfl, e1, .dat (.int ((freeL n fx).getD x 0 : Nat)), s9', s10', s11', h11', ?_⟩
      rw [List.range_succ, List.map_append]; rfl)
    ⟨.un, .un, .un, .un, .inl rfl, rfl⟩
  rw [List.length_range] at e
  refine ⟨s6, s9, s10, s11, ?_⟩
  have e0 : (freeL n fx).map (fun (c : Nat) => (.int c : D)) = (List.range (freeL n fx).length).map fun (j : Nat) => .int ((freeL n fx).getD j 0 : Nat) := map_getD _ _
  have e1 : iSeq (eVar 4) [.dat (.int n), .dat (roomsD rs), .dat (fxD fx), .dat (rowD n lv), .dat (.list ((freeL n fx).map fun (c : Nat) => .int c)), .own (.lst []), .un, .un, .un, .un, .un, .un, .un] = some ((freeL n fx).map (fun (c : Nat) => .int c), [.dat (.int n), .dat (roomsD rs), .dat (fxD fx), .dat (rowD n lv), .dat (.list ((freeL n fx).map fun (c : Nat) => .int c)), .own (.lst []), .un, .un, .un, .un, .un, .un, .un]) := rfl
  unfold sFor
  rw [e1, Option.bind_some]
  show QL.forM (gSet 6) rowBody ((freeL n fx).map fun (c : Nat) => .int c) _ = _
  rw [e0]
  rw [e0] at e
  exact e
theorem keys_put {n s B Bl : Nat} {d : Int} {rs : List Room} {lv : Nat → Rat} {fx : Fx} (h : LvOk n s B Bl d rs lv fx) (s0 s1 s3 s4 s5 s6 s7 s9 s10 s11 s12 : Sl) :
    ∃ g s6', (∀ p ∈ fx, g p.1 = p.2) ∧ sFor (iKeysD (eVar 2)) (gSet 6) (sSetIx 8 (eVar 6) (eOp2 dIxD (eVar 2) (eVar 6))) [s0, s1, .dat (fxD fx), s3, s4, s5, s6, s7, .own (.lst (rowL n fun _ => 0)), s9, s10, s11, s12] = some (.nx, [s0, s1, .dat (fxD fx), s3, s4, s5, s6', s7, .own (.lst (rowL n g)), s9, s10, s11, s12]) := by
  obtain ⟨ρ', e, g, s6', hg, rfl⟩ := forM_inv (g := gSet 6) (b := sSetIx 8 (eVar 6) (eOp2 dIxD (eVar 2) (eVar 6))) (fun p : Nat × Rat => .int (p.1 : Int)) fx (fun i ρ => ∃ (g : Nat → Rat) (s6 : Sl), (∀ p ∈ fx.take i, g p.1 = p.2) ∧ ρ = [s0, s1, .dat (fxD fx), s3, s4, s5, s6, s7, .own (.lst (rowL n g)), s9, s10, s11, s12])
    [s0, s1, .dat (fxD fx), s3, s4, s5, s6, s7, .own (.lst (rowL n fun _ => 0)), s9, s10, s11, s12]
    (fun i p ρ hx hp => by
      obtain ⟨g, s6, hg, rfl⟩ := hp
      have hm : p ∈ fx := List.mem_of_getElem? hx
      have hlt : p.1 < n := h.lt p.1 (List.mem_map_of_mem hm)
      have e3 : dIxD (fxD fx) (.int (p.1 : Int)) = some (fr p.2) := getD_in fx p.1 p.2 h.nd hm
      refine ⟨_, _, rfl, ?_, fun j => if j = p.1 then p.2 else g j, .dat (.int (p.1 : Int)), fun q hq => ?_, rfl⟩
      · simp only [sSeq, sIf, sNil, sAsg, sRet, sDrop, cV, cAnd, cOr, cNot, cTrue, eOp2, eOp1, eVar, eC, eApp, aCons, aNil, eIf, eAnd, eOr, eNot, eChain, eNeg, asB, dLt, dLe, dGt, dGe, dSub, dIx, dAbs, dMin, dMax, dLen, dList, dTuple, mkTup, mkLst, gSet, QL.gTup, gTupF, unTup, sPar2, xDat, xOwn, xNil, noScr, sOwn, oLst, iSeq, asSeq, iApp, endOf, List.map_cons, List.map_nil, List.length_cons, List.length_nil, List.length_set, List.replicate, List.cons_append, List.nil_append, List.getElem?_cons_zero, List.getElem?_cons_succ, List.getElem?_nil, Option.bind_some, Option.bind_none, Option.map_some, Option.map_none, List.set_cons_zero, List.set_cons_succ, List.set_nil, Bool.false_eq_true, if_false, if_true, ne_eq, not_false_eq_true, not_true_eq_false, and_self, and_true, true_and, Bool.not_true, Bool.not_false, Bool.and_true, Bool.true_and, Nat.reduceAdd, Nat.reduceSub, Nat.reduceLeDiff, Nat.reduceLT, Nat.reduceEqDiff, Nat.lt_irrefl, decide_true, decide_false, isa1, isa2, isa3, isa4, isa5, isa6, isa7, isa8, atI_0, atI_1, atI_2, atI_3, Option.getD_some, ownL, scrAt, sSetIx, e3, rowL_length, ixN_at hlt, row_set _ _ hlt]
      · rw [take_get hx, List.mem_append] at hq
        rcases hq with hq | hq
        · have : q.1 ≠ p.1 := fun z => by
            have hi := (List.getElem?_eq_some_iff.mp hx).1
            obtain ⟨j, hj, ej⟩ := List.mem_iff_getElem.mp hq
            rw [List.length_take] at hj
            have ej' : fx[j]'(by omega) = q := by rw [← ej, List.getElem_take]
            have e1 : (keys fx)[j]'(by unfold keys; rw [List.length_map]; omega) = q.1 := by unfold keys; rw [List.getElem_map, ej']
            have e2 : (keys fx)[i]'(by unfold keys; rw [List.length_map]; omega) = p.1 := by
              unfold keys
              rw [List.getElem_map, (List.getElem?_eq_some_iff.mp hx).2]
            have := nodup_inj h.nd (by unfold keys; rw [List.length_map]; omega) (by unfold keys; rw [List.length_map]; omega) (e1.trans (z.trans e2.symm))
            omega
          show ite _ _ _ = _
          rw [if_neg this]
          exact hg q hq
        · rw [List.mem_singleton] at hq
          show ite _ _ _ = _
          rw [hq, if_pos rfl])
    ⟨fun _ => 0, s6, fun p hp => by simp at hp, rfl⟩
  rw [List.take_length] at hg
  refine ⟨g, s6', hg, ?_⟩
  have e0 : iKeysD (eVar 2) [s0, s1, .dat (fxD fx), s3, s4, s5, s6, s7, .own (.lst (rowL n fun _ => 0)), s9, s10, s11, s12] = some (fx.map (fun p : Nat × Rat => .int (p.1 : Int)), [s0, s1, .dat (fxD fx), s3, s4, s5, s6, s7, .own (.lst (rowL n fun _ => 0)), s9, s10, s11, s12]) := by
    rw [← keys_map]; rfl
  unfold sFor
  rw [e0]
  exact e
theorem free_put {n : Nat} {fx : Fx} (x g : Nat → Rat) (hg : ∀ p ∈ fx, g p.1 = p.2) (s0 s1 s2 s3 s5 s6 s9 s10 s11 s12 : Sl) :
    ∃ u s6' s12', (∀ p ∈ fx, u p.1 = p.2) ∧ (∀ j, j < (freeL n fx).length → u ((freeL n fx).getD j 0) = x j) ∧ sFor (iApp zipD (aCons (eVar 4) (aCons (eVar 7) aNil))) (gTup [(gSet 6), (gSet 12)]) (sSetIx 8 (eVar 6) (eVar 12)) [s0, s1, s2, s3, .dat (.list ((freeL n fx).map fun (c : Nat) => .int c)), s5, s6, .dat (rowD (freeL n fx).length x), .own (.lst (rowL n g)), s9, s10, s11, s12]
      = some (.nx, [s0, s1, s2, s3, .dat (.list ((freeL n fx).map fun (c : Nat) => .int c)), s5, s6', .dat (rowD (freeL n fx).length x), .own (.lst (rowL n u)), s9, s10, s11, s12']) := by
  obtain ⟨ρ', e, u, s6', s12', h1, h2, rfl⟩ := forM_inv (g := gTup [(gSet 6), (gSet 12)]) (b := sSetIx 8 (eVar 6) (eVar 12)) (fun (j : Nat) => .tuple [.int ((freeL n fx).getD j 0 : Nat), fr (x j)]) (List.range (freeL n fx).length)
    (fun i ρ => ∃ (u : Nat → Rat) (s6 s12 : Sl), (∀ p ∈ fx, u p.1 = p.2) ∧ (∀ j, j < i → u ((freeL n fx).getD j 0) = x j) ∧ ρ = [s0, s1, s2, s3, .dat (.list ((freeL n fx).map fun (c : Nat) => .int c)), s5, s6, .dat (rowD (freeL n fx).length x), .own (.lst (rowL n u)), s9, s10, s11, s12])
    [s0, s1, s2, s3, .dat (.list ((freeL n fx).map fun (c : Nat) => .int c)), s5, s6, .dat (rowD (freeL n fx).length x), .own (.lst (rowL n g)), s9, s10, s11, s12]
    (fun i j ρ hx hp => by
      obtain ⟨rfl, hi⟩ := range_get hx
      obtain ⟨u, s6, s12, h1, h2, rfl⟩ := hp
      obtain ⟨hlt, hnk⟩ := free_mem.mp (getD_mem hi)
      refine ⟨_, _, rfl, ?_, fun c => if c = (freeL n fx).getD j 0 then x j else u c, .dat (.int ((freeL n fx).getD j 0 : Nat)), .dat (fr (x j)), fun p hp => ?_, fun l hl => ?_, rfl⟩
      · simp only [sSeq, sIf, sNil, sAsg, sRet, sDrop, cV, cAnd, cOr, cNot, cTrue, eOp2, eOp1, eVar, eC, eApp, aCons, aNil, eIf, eAnd, eOr, eNot, eChain, eNeg, asB, dLt, dLe, dGt, dGe, dSub, dIx, dAbs, dMin, dMax, dLen, dList, dTuple, mkTup, mkLst, gSet, QL.gTup, gTupF, unTup, sPar2, xDat, xOwn, xNil, noScr, sOwn, oLst, iSeq, asSeq, iApp, endOf, List.map_cons, List.map_nil, List.length_cons, List.length_nil, List.length_set, List.replicate, List.cons_append, List.nil_append, List.getElem?_cons_zero, List.getElem?_cons_succ, List.getElem?_nil, Option.bind_some, Option.bind_none, Option.map_some, Option.map_none, List.set_cons_zero, List.set_cons_succ, List.set_nil, Bool.false_eq_true, if_false, if_true, ne_eq, not_false_eq_true, not_true_eq_false, and_self, and_true, true_and, Bool.not_true, Bool.not_false, Bool.and_true, Bool.true_and, Nat.reduceAdd, Nat.reduceSub, Nat.reduceLeDiff, Nat.reduceLT, Nat.reduceEqDiff, Nat.lt_irrefl, decide_true, decide_false, isa1, isa2, isa3, isa4, isa5, isa6, isa7, isa8, atI_0, atI_1, atI_2, atI_3, Option.getD_some, ownL, scrAt, sSetIx, rowL_length, ixN_at hlt, row_set _ _ hlt]
      · show ite _ _ _ = _
        rw [if_neg fun z => hnk (by rw [← z]; exact List.mem_map_of_mem (f := Prod.fst) hp)]
        exact h1 p hp
      · by_cases q : l = j
        · show ite _ _ _ = _
          rw [q, if_pos rfl]
        · have hlj : l < (freeL n fx).length := by omega
          show ite _ _ _ = _
          rw [if_neg fun z => q (by
            rw [List.getD_eq_getElem?_getD, List.getD_eq_getElem?_getD, List.getElem?_eq_getElem hlj, List.getElem?_eq_getElem hi] at z
            exact nodup_inj (free_nodup n fx) hlj hi z)]
          exact h2 l (by omega))
    ⟨g, s6, s12, hg, fun j hj => absurd hj (Nat.not_lt_zero _), rfl⟩
  rw [List.length_range] at h2
  refine ⟨u, s6', s12', h1, h2, ?_⟩
  have e0 : zipL ((freeL n fx).map fun (c : Nat) => .int c) (rowL (freeL n fx).length x) = (List.range (freeL n fx).length).map fun (j : Nat) => .tuple [.int ((freeL n fx).getD j 0 : Nat), fr (x j)] := by
    rw [map_getD]
    exact zipL_map _ _ _
  have e1 : iApp zipD (aCons (eVar 4) (aCons (eVar 7) aNil)) [s0, s1, s2, s3, .dat (.list ((freeL n fx).map fun (c : Nat) => .int c)), s5, s6, .dat (rowD (freeL n fx).length x), .own (.lst (rowL n g)), s9, s10, s11, s12] = some (zipL ((freeL n fx).map fun (c : Nat) => .int c) (rowL (freeL n fx).length x), [s0, s1, s2, s3, .dat (.list ((freeL n fx).map fun (c : Nat) => .int c)), s5, s6, .dat (rowD (freeL n fx).length x), .own (.lst (rowL n g)), s9, s10, s11, s12]) := rfl
  unfold sFor
  rw [e1, e0]
  exact e

end QP
set_option Elab.async false
set_option linter.all false
set_option maxRecDepth 100000
set_option maxHeartbeats 1000000
namespace QP
open PySem PySem.Spec PyProof.Rows L2 QL
theorem grw_mono {s k m : Nat} (h : k ≤ m) : grw s k ≤ grw s m := by
  have step : ∀ n, grw s k ≤ grw s (k + n) := by
    intro n
    induction n with
    | zero => exact Nat.le_refl _
    | succ n ih => show grw s k ≤ 2 * grw s (k + n) + 1; omega
  have := step (m - k)
  rw [show k + (m - k) = m by omega] at this
  exact this
/-- levels with one common denominator -/
def CdU (n g : Nat) (u : Nat → Rat) : Prop := ∃ D : Int, D ≠ 0 ∧ D.natAbs < 2 ^ g ∧ ∀ b, b < n → Cd D (2 ^ g) (u b)
theorem CdU.sz {n g : Nat} {u : Nat → Rat} (h : CdU n g u) : ∀ b, b < n → Sz (g + 1) (u b) := fun b hb => by
  obtain ⟨D, h1, h2, h3⟩ := h
  have : 2 ^ g < 2 ^ (g + 1) := Nat.pow_lt_pow_right (by decide) (Nat.lt_succ_self _)
  exact (h3 b hb).sz h1 (by omega) this
/-- the level of each beam: what is told, and what balances -/
structure Sol (n : Nat) (rs : List Room) (lv : Nat → Rat) (fx : Fx) (u : Nat → Rat) : Prop where
  told : ∀ p ∈ fx, u p.1 = p.2
  bal : ∀ b, b < n → ¬ b ∈ keys fx → net rs u b = lv b
theorem Sol.uniq {n : Nat} {rs : List Room} {lv : Nat → Rat} {fx : Fx} {u v : Nat → Rat} (h : Plan n rs) (h0 : fx ≠ []) (hk : ∀ f ∈ keys fx, f < n) (hu : Sol n rs lv fx u) (hv : Sol n rs lv fx v) : ∀ b, b < n → u b = v b := by
  obtain ⟨f, hf⟩ : ∃ f, f ∈ keys fx := by
    cases fx with
    | nil => exact absurd rfl h0
    | cons p r => exact ⟨p.1, List.mem_cons_self⟩
  refine QP.uniq (fx := fun b => b ∈ keys fx) h f (hk f hf) hf (fun b _ q => ?_) fun b hb q => by rw [hu.bal b hb q, hv.bal b hb q]
  obtain ⟨p, hp, rfl⟩ := List.mem_map.mp q
  rw [hu.told p hp, hv.told p hp]
theorem F_levels_by_eq {n s B Bl M : Nat} {d : Int} {rs : List Room} {lv : Nat → Rat} {fx : Fx} (h : LvOk n s B Bl d rs lv fx) (hM : (freeL n fx).length ≤ M) (hs : 3 * grw s M ≤ 9000) :
    ∃ u, F_levels_by [.int n, roomsD rs, fxD fx, rowD n lv] = some (.tuple (rowL n u)) ∧ Sol n rs lv fx u ∧ CdU n (grw s M) u := by
  have hfl := free_len n fx
  have h6 := h.plan.six
  have hg := grw_mono (s := s) hM
  have hinj : Inj (lvA rs lv fx n) (freeL n fx).length := lvA_inj h.plan h.lt h.ne
  have hsz : SzM s (lvA rs lv fx n) (freeL n fx).length := lvA_sz h.nz h.dl h.cd h.zo h.lv h.big
  obtain ⟨x, e3, hx, D, hD, hD2, hz⟩ := F_solved_eq (lvA rs lv fx n) (by omega) hsz hinj (by omega)
  obtain ⟨s6, s9, s10, s11, e2⟩ := lv_rows h
  obtain ⟨g, s6', hg1, e4⟩ := keys_put h (.dat (.int n)) (.dat (roomsD rs)) (.dat (rowD n lv)) (.dat (.list ((freeL n fx).map fun (c : Nat) => .int c))) .un s6 (.dat (rowD (freeL n fx).length x)) s9 s10 s11 .un
  obtain ⟨u, s6'', s12', hu1, hu2, e5⟩ := free_put (n := n) x g hg1 (.dat (.int n)) (.dat (roomsD rs)) (.dat (fxD fx)) (.dat (rowD n lv)) .un s6' s9 s10 s11 .un
  have hall : ∀ b, b < n → (∃ p ∈ fx, b = p.1) ∨ ∃ j, j < (freeL n fx).length ∧ (freeL n fx).getD j 0 = b := fun b hb => by
    by_cases q : b ∈ keys fx
    · obtain ⟨p, hp, rfl⟩ := List.mem_map.mp q
      exact .inl ⟨p, hp, rfl⟩
    · have hbm : b ∈ freeL n fx := free_mem.mpr ⟨hb, q⟩
      have hlt := List.idxOf_lt_length_of_mem hbm
      refine .inr ⟨_, hlt, ?_⟩
      rw [List.getD_eq_getElem?_getD, List.getElem?_eq_getElem hlt]
      exact List.getElem_idxOf hlt
  have hpw : 2 ^ grw s (freeL n fx).length ≤ 2 ^ grw s M := Nat.pow_le_pow_right (by decide) hg
  refine ⟨u, ?_, ⟨hu1, fun b hb q => ?_⟩, D, hD, Nat.lt_of_lt_of_le hD2 hpw, fun b hb => ?_⟩
  · have e1 := eLcG (vs := [6]) (ρ := [.dat (.int n), .dat (roomsD rs), .dat (fxD fx), .dat (rowD n lv), .un, .un, .un, .un, .un, .un, .un, .un, .un]) (it := iApp rng1 (aCons (eVar 0) aNil)) (tg := gSet 6) (c := cV (eOp2 dNotInK (eVar 6) (eVar 2))) (m := eVar 6)
      (fun (b : Nat) => .int b) (fun (b : Nat) => .int b) (fun b => !decide (b ∈ keys fx)) (fun b => [.dat (.int n), .dat (roomsD rs), .dat (fxD fx), .dat (rowD n lv), .un, .un, .dat (.int b), .un, .un, .un, .un, .un, .un]) (List.range n)
      (by have := rng1_nat (n := n) (by omega); simp only [iApp, aCons, aNil, eVar, List.getElem?_cons_zero, Option.bind_some, Option.map_some, this]) (by simp; omega)
      (fun b hb => ⟨rfl, by simp only [sSeq, sIf, sNil, sAsg, sRet, sDrop, cV, cAnd, cOr, cNot, cTrue, eOp2, eOp1, eVar, eC, eApp, aCons, aNil, eIf, eAnd, eOr, eNot, eChain, eNeg, asB, dLt, dLe, dGt, dGe, dSub, dIx, dAbs, dMin, dMax, dLen, dList, dTuple, mkTup, mkLst, gSet, QL.gTup, gTupF, unTup, sPar2, xDat, xOwn, xNil, noScr, sOwn, oLst, iSeq, asSeq, iApp, endOf, List.map_cons, List.map_nil, List.length_cons, List.length_nil, List.length_set, List.replicate, List.cons_append, List.nil_append, List.getElem?_cons_zero, List.getElem?_cons_succ, List.getElem?_nil, Option.bind_some, Option.bind_none, Option.map_some, Option.map_none, List.set_cons_zero, List.set_cons_succ, List.set_nil, Bool.false_eq_true, if_false, if_true, ne_eq, not_false_eq_true, not_true_eq_false, and_self, and_true, true_and, Bool.not_true, Bool.not_false, Bool.and_true, Bool.true_and, Nat.reduceAdd, Nat.reduceSub, Nat.reduceLeDiff, Nat.reduceLT, Nat.reduceEqDiff, Nat.lt_irrefl, decide_true, decide_false, isa1, isa2, isa3, isa4, isa5, isa6, isa7, isa8, atI_0, atI_1, atI_2, atI_3, Option.getD_some, ownL, scrAt, dNotInK_fx fx h.nd b], fun _ => rfl, rfl⟩) rfl
    have e1' : eLc [6] (iApp rng1 (aCons (eVar 0) aNil)) (gSet 6) (cV (eOp2 dNotInK (eVar 6) (eVar 2))) (eVar 6) [.dat (.int n), .dat (roomsD rs), .dat (fxD fx), .dat (rowD n lv), .un, .un, .un, .un, .un, .un, .un, .un, .un] = some (.list ((freeL n fx).map fun (c : Nat) => .int c), [.dat (.int n), .dat (roomsD rs), .dat (fxD fx), .dat (rowD n lv), .un, .un, .un, .un, .un, .un, .un, .un, .un]) := e1
    have hr1 : (0 : Int) ≤ n := by omega
    have hr2 : (n : Int) ≤ 1000 := by omega
    unfold rowBody goalBody at e2
    unfold F_levels_by runF B_levels_by
    rw [← fr0]
    simp only [List.length_cons, List.length_nil, Nat.reduceAdd, if_true, List.map_cons, List.map_nil, Nat.reduceSub, List.replicate, List.cons_append, List.nil_append, sSeq, sAsg, e1', Option.bind_some, gSet, Option.map_some, List.set_cons_succ, List.set_cons_zero, sOwn, oLst, aNil, Nat.zero_le, List.length_nil, if_true]
    rw [e2]
    simp only [Option.bind_some, eAppO, yVar, yNil, List.getElem?_cons_zero, List.getElem?_cons_succ, isRef, if_true, Option.map_some, ownIx, List.nodup_cons, List.not_mem_nil, not_false_eq_true, List.nodup_nil, and_self, List.map_cons, List.map_nil, toSl, e3, clr, put, List.set_cons_succ, List.set_cons_zero, Option.getD_some]
    simp only [oRep, eApp, aCons, aNil, eC, mkLst, Option.bind_some, Option.map_some, eVar, List.getElem?_cons_zero, List.getElem?_cons_succ, List.length_cons, List.length_nil, Nat.reduceAdd, hr1, hr2, Nat.reduceLeDiff, and_self, if_true, Int.toNat_natCast, rep_flat, List.set_cons_succ, List.set_cons_zero]
    rw [e4]
    simp only [Option.bind_some]
    rw [e5]
    simp only [Option.bind_some, sRet, eApp, aCons, aNil, eVar, List.getElem?_cons_zero, List.getElem?_cons_succ, Option.map_some, dTuple, endOf]
  · have hbm : b ∈ freeL n fx := free_mem.mpr ⟨hb, q⟩
    rcases hall b hb with ⟨p, hp, rfl⟩ | ⟨i, hi, eb⟩
    · exact absurd (List.mem_map_of_mem (f := Prod.fst) hp) q
    · have hh := hx i hi
      rw [net_lap u b h.plan.inn, sm_part _ (freeL n fx) (keys fx) (free_nodup n fx) h.nd (fun c hc => (free_mem.mp hc).1) h.lt (fun c hc => ⟨fun z => (free_mem.mp z).2, fun z => free_mem.mpr ⟨hc, z⟩⟩), ← fsum_ls rs b u fx hu1, ls_sm]
      have e1 : lvA rs lv fx n i (freeL n fx).length = lv b - fsum rs b fx := by
        unfold lvA
        rw [if_neg (by omega), eb]
      rw [e1] at hh
      rw [sm_congr (g := fun j => lvA rs lv fx n i j * x j) fun j hj => by
        unfold lvA
        rw [if_pos hj, eb, hu2 j hj], hh]
      grind
  · rcases hall b hb with ⟨p, hp, rfl⟩ | ⟨i, hi, eb⟩
    · rw [hu1 p hp]
      rcases h.zo p hp with q | q <;> rw [q]
      · exact (Cd.zero D).mono (Nat.zero_le _)
      · exact ⟨D, by have := int_ne hD; grind, by omega⟩
    · rw [← eb, hu2 i hi]
      exact Cd.mono (hz i hi) hpw

end QP
set_option Elab.async false
set_option linter.all false
set_option maxRecDepth 100000
set_option maxHeartbeats 1000000
namespace QP
open PySem PySem.Spec PyProof.Rows L2 QL
/-! ### which beams are joined -/
def natsL (l : List Nat) : List D := l.map fun (b : Nat) => .int b
def fndK (F : List Nat) : List (Int × D) := F.map fun (b : Nat) => ((b : Int), .bool true)
theorem getK_fnd (b : Nat) : ∀ F : List Nat, (getK (fndK F) (b : Int)).isSome = decide (b ∈ F)
  | [] => rfl
  | c :: F => by
    have ih := getK_fnd b F
    show (if (c : Int) = b then some (PyData.bool true) else QL.getD (kvD (fndK F)) (b : Int)).isSome = _
    by_cases q : b = c
    · rw [if_pos (by omega), decide_eq_true (by rw [q]; exact List.mem_cons_self)]; rfl
    · rw [if_neg (by omega)]
      have e : decide (b ∈ c :: F) = decide (b ∈ F) := by
        by_cases q2 : b ∈ F
        · rw [decide_eq_true q2, decide_eq_true (List.mem_cons_of_mem _ q2)]
        · rw [decide_eq_false q2, decide_eq_false (by simp [q, q2])]
      rw [e]
      exact ih
theorem putI_fnd {b : Nat} {F : List Nat} (h : ¬ b ∈ F) : putI (fndK F) (b : Int) (.bool true) = fndK (F ++ [b]) := by
  unfold putI
  rw [if_neg]
  · unfold fndK; rw [List.map_append]; rfl
  · intro q
    rw [List.any_eq_true] at q
    obtain ⟨z, hz, hq⟩ := q
    unfold fndK at hz
    obtain ⟨c, hc, rfl⟩ := List.mem_map.mp hz
    have : (c : Int) = b := of_decide_eq_true hq
    exact h (by rw [show b = c by omega]; exact hc)
theorem flat_nats (l : List Nat) : (natsL l).all flatD = true := by
  induction l with
  | nil => rfl
  | cons a l ih => show (true && (natsL l).all flatD) = true; rw [ih]; rfl
theorem dIn_nats (b : Nat) (l : List Nat) : dIn (.int b) (.list (natsL l)) = some (.bool (decide (b ∈ l))) := by
  have e : dIn (.int (b : Int)) (.list (natsL l)) = if (true && (natsL l).all flatD) = true then some (.bool (inV (.int b) ((natsL l).map QL.toV))) else none := rfl
  rw [e, flat_nats, Bool.and_self, if_pos rfl]
  congr 2
  clear e
  induction l with
  | nil => rfl
  | cons a l ih =>
    show (eqV (V.int (a : Int)) (V.int (b : Int)) || inV (.int b) ((natsL l).map QL.toV)) = _
    rw [ih, eqV_nat]
    by_cases q : b = a
    · subst q; simp
    · simp [q]
theorem canLay_nats : ∀ l : List Nat, PyData.canLayAll0 (natsL l) = true
  | [] => rfl
  | a :: l => by show (true && PyData.canLayAll0 (natsL l)) = true; rw [canLay_nats l]; rfl
theorem natsL_ints (l : List Nat) : natsL l = (l.map fun (b : Nat) => (b : Int)).map PyData.int := by
  unfold natsL; rw [List.map_map]; rfl
theorem shaped_nats (l : List Nat) : SeqAt.shaped (.list (natsL l)) = true := by rw [natsL_ints]; exact shaped_ints _
theorem dNe_nats (l : List Nat) : dNe (.list (natsL l)) (.list []) = some (.bool (!l.isEmpty)) := by
  unfold dNe
  rw [if_pos ⟨shaped_nats l, by decide⟩, eqv_nil]
  cases l <;> rfl
/-- one look at a room -/
def look (L : List Nat) (h t : Nat) (p : List Nat × List Nat) : List Nat × List Nat := if h ∈ L ∧ ¬ t ∈ p.1 then (p.1 ++ [t], p.2 ++ [t]) else p
def lookR (L : List Nat) (r : Room) (p : List Nat × List Nat) : List Nat × List Nat := look L r.2.1 r.1 (look L r.1 r.2.1 p)
def lookBody : MS := (sIf (cAnd (cV (eOp2 dIn (eVar 8) (eVar 3))) (cV (eNotInOK 2 (eVar 9)))) (sSeq (sPutK 2 (eVar 9) (eC (.bool true))) (sDrop (eAppend 4 (eVar 9)))) sNil)
theorem look_body (L : List Nat) (h t : Nat) (p : List Nat × List Nat) (h1 : p.1.length ≤ 100) (h2 : p.2.length ≤ 100) (s0 s1 s5 s6 s7 : Sl) :
    lookBody [s0, s1, .own (.dk (fndK p.1)), .dat (.list (natsL L)), .own (.lst (natsL p.2)), s5, s6, s7, .dat (.int h), .dat (.int t)] = some (.nx, [s0, s1, .own (.dk (fndK (look L h t p).1)), .dat (.list (natsL L)), .own (.lst (natsL (look L h t p).2)), s5, s6, s7, .dat (.int h), .dat (.int t)]) := by
  have l1 : (fndK p.1).length < 1000000 := by unfold fndK; rw [List.length_map]; omega
  have l2 : (natsL p.2).length < 1000000 := by unfold natsL; rw [List.length_map]; omega
  unfold lookBody look
  by_cases q1 : h ∈ L
  · by_cases q2 : t ∈ p.1
    · rw [if_neg (fun z => z.2 q2)]
      simp only [sSeq, sIf, sNil, sAsg, sRet, sDrop, cV, cAnd, cOr, cNot, cTrue, eOp2, eOp1, eVar, eC, eApp, aCons, aNil, eIf, eAnd, eOr, eNot, eChain, eNeg, asB, dLt, dLe, dGt, dGe, dSub, dIx, dAbs, dMin, dMax, dLen, dList, dTuple, mkTup, mkLst, gSet, QL.gTup, gTupF, unTup, sPar2, xDat, xOwn, xNil, noScr, sOwn, oLst, iSeq, asSeq, iApp, endOf, List.map_cons, List.map_nil, List.length_cons, List.length_nil, List.length_set, List.replicate, List.cons_append, List.nil_append, List.getElem?_cons_zero, List.getElem?_cons_succ, List.getElem?_nil, Option.bind_some, Option.bind_none, Option.map_some, Option.map_none, List.set_cons_zero, List.set_cons_succ, List.set_nil, Bool.false_eq_true, if_false, if_true, ne_eq, not_false_eq_true, not_true_eq_false, and_self, and_true, true_and, Bool.not_true, Bool.not_false, Bool.and_true, Bool.true_and, Nat.reduceAdd, Nat.reduceSub, Nat.reduceLeDiff, Nat.reduceLT, Nat.reduceEqDiff, Nat.lt_irrefl, decide_true, decide_false, isa1, isa2, isa3, isa4, isa5, isa6, isa7, isa8, atI_0, atI_1, atI_2, atI_3, Option.getD_some, ownL, scrAt, dIn_nats, decide_eq_true q1, eNotInOK, ownK, getK_fnd, decide_eq_true q2]
    · rw [if_pos ⟨q1, q2⟩]
      simp only [sSeq, sIf, sNil, sAsg, sRet, sDrop, cV, cAnd, cOr, cNot, cTrue, eOp2, eOp1, eVar, eC, eApp, aCons, aNil, eIf, eAnd, eOr, eNot, eChain, eNeg, asB, dLt, dLe, dGt, dGe, dSub, dIx, dAbs, dMin, dMax, dLen, dList, dTuple, mkTup, mkLst, gSet, QL.gTup, gTupF, unTup, sPar2, xDat, xOwn, xNil, noScr, sOwn, oLst, iSeq, asSeq, iApp, endOf, List.map_cons, List.map_nil, List.length_cons, List.length_nil, List.length_set, List.replicate, List.cons_append, List.nil_append, List.getElem?_cons_zero, List.getElem?_cons_succ, List.getElem?_nil, Option.bind_some, Option.bind_none, Option.map_some, Option.map_none, List.set_cons_zero, List.set_cons_succ, List.set_nil, Bool.false_eq_true, if_false, if_true, ne_eq, not_false_eq_true, not_true_eq_false, and_self, and_true, true_and, Bool.not_true, Bool.not_false, Bool.and_true, Bool.true_and, Nat.reduceAdd, Nat.reduceSub, Nat.reduceLeDiff, Nat.reduceLT, Nat.reduceEqDiff, Nat.lt_irrefl, decide_true, decide_false, isa1, isa2, isa3, isa4, isa5, isa6, isa7, isa8, atI_0, atI_1, atI_2, atI_3, Option.getD_some, ownL, scrAt, dIn_nats, decide_eq_true q1, eNotInOK, ownK, getK_fnd, decide_eq_false q2, sPutK, if_pos l1, putI_fnd q2, eAppend, if_pos l2]
      unfold natsL
      rw [List.map_append]; rfl
  · rw [if_neg (fun z => q1 z.1)]
    simp only [sSeq, sIf, sNil, sAsg, sRet, sDrop, cV, cAnd, cOr, cNot, cTrue, eOp2, eOp1, eVar, eC, eApp, aCons, aNil, eIf, eAnd, eOr, eNot, eChain, eNeg, asB, dLt, dLe, dGt, dGe, dSub, dIx, dAbs, dMin, dMax, dLen, dList, dTuple, mkTup, mkLst, gSet, QL.gTup, gTupF, unTup, sPar2, xDat, xOwn, xNil, noScr, sOwn, oLst, iSeq, asSeq, iApp, endOf, List.map_cons, List.map_nil, List.length_cons, List.length_nil, List.length_set, List.replicate, List.cons_append, List.nil_append, List.getElem?_cons_zero, List.getElem?_cons_succ, List.getElem?_nil, Option.bind_some, Option.bind_none, Option.map_some, Option.map_none, List.set_cons_zero, List.set_cons_succ, List.set_nil, Bool.false_eq_true, if_false, if_true, ne_eq, not_false_eq_true, not_true_eq_false, and_self, and_true, true_and, Bool.not_true, Bool.not_false, Bool.and_true, Bool.true_and, Nat.reduceAdd, Nat.reduceSub, Nat.reduceLeDiff, Nat.reduceLT, Nat.reduceEqDiff, Nat.lt_irrefl, decide_true, decide_false, isa1, isa2, isa3, isa4, isa5, isa6, isa7, isa8, atI_0, atI_1, atI_2, atI_3, Option.getD_some, ownL, scrAt, dIn_nats, decide_eq_false q1]
theorem look_len (L : List Nat) (h t : Nat) (p : List Nat × List Nat) : (look L h t p).1.length ≤ p.1.length + 1 ∧ (look L h t p).2.length ≤ p.2.length + 1 := by
  unfold look
  split
  · simp
  · omega
def roomBody : MS := (sFor (iSeq (eApp mkTup (aCons (eApp mkTup (aCons (eVar 5) (aCons (eVar 6) aNil))) (aCons (eApp mkTup (aCons (eVar 6) (aCons (eVar 5) aNil))) aNil)))) (gTup [(gSet 8), (gSet 9)]) lookBody)
theorem room_body (L : List Nat) (r : Room) (p : List Nat × List Nat) (h1 : p.1.length ≤ 90) (h2 : p.2.length ≤ 90) (s0 s1 s7 s8 s9 : Sl) :
    ∃ s8' s9', roomBody [s0, s1, .own (.dk (fndK p.1)), .dat (.list (natsL L)), .own (.lst (natsL p.2)), .dat (.int r.1), .dat (.int r.2.1), s7, s8, s9] = some (.nx, [s0, s1, .own (.dk (fndK (lookR L r p).1)), .dat (.list (natsL L)), .own (.lst (natsL (lookR L r p).2)), .dat (.int r.1), .dat (.int r.2.1), s7, s8', s9']) := by
  have e1 := look_body L r.1 r.2.1 p (by omega) (by omega) s0 s1 (.dat (.int r.1)) (.dat (.int r.2.1)) s7
  have hl := look_len L r.1 r.2.1 p
  have e2 := look_body L r.2.1 r.1 (look L r.1 r.2.1 p) (by omega) (by omega) s0 s1 (.dat (.int r.1)) (.dat (.int r.2.1)) s7
  refine ⟨.dat (.int r.2.1), .dat (.int r.1), ?_⟩
  unfold roomBody lookR
  simp only [sFor, iSeq, eApp, aCons, aNil, eVar, List.getElem?_cons_zero, List.getElem?_cons_succ, Option.bind_some, Option.map_some, mkTup, asSeq, QL.forM, QL.gTup, unTup, gTupF, gSet, List.set_cons_succ, List.set_cons_zero, e1, e2, List.length_cons, List.length_nil, Nat.reduceAdd, Nat.reduceLeDiff, if_true]

end QP
set_option Elab.async false
set_option linter.all false
set_option maxRecDepth 100000
set_option maxHeartbeats 1000000
namespace QP
open PySem PySem.Spec PyProof.Rows L2 QL
/-- what is found stays in order -/
structure Fnd (n : Nat) (rs : List Room) (L F : List Nat) (p : List Nat × List Nat) : Prop where
  app : p.1 = F ++ p.2
  nd : p.1.Nodup
  lt : ∀ b ∈ p.1, b < n
  so : ∀ b ∈ p.1, Rch rs 0 b
theorem Fnd.len {n : Nat} {rs : List Room} {L F : List Nat} {p : List Nat × List Nat} (h : Fnd n rs L F p) : p.1.length ≤ n ∧ p.2.length ≤ n := by
  have h1 : p.1.length ≤ (List.range n).length := List.Nodup.length_le_of_subset h.nd fun b hb => List.mem_range.mpr (h.lt b hb)
  rw [List.length_range] at h1
  have := congrArg List.length h.app
  rw [List.length_append] at this
  omega
theorem look_fnd {n : Nat} {rs : List Room} {L F : List Nat} {p : List Nat × List Nat} {h t : Nat} (ht : t < n) (hs : h ∈ L → Rch rs 0 t) (x : Fnd n rs L F p) : Fnd n rs L F (look L h t p) ∧ (∀ b ∈ p.1, b ∈ (look L h t p).1) ∧ (h ∈ L → t ∈ (look L h t p).1) := by
  unfold look
  split
  · rename_i q
    refine ⟨⟨by rw [x.app, List.append_assoc], ?_, fun b hb => ?_, fun b hb => ?_⟩, fun b hb => List.mem_append_left _ hb, fun _ => List.mem_append_right _ List.mem_cons_self⟩
    · show (p.1 ++ [t]).Nodup
      rw [List.nodup_append]
      refine ⟨x.nd, by simp, fun a ha b hb => ?_⟩
      rw [List.mem_singleton] at hb
      rw [hb]
      exact fun z => q.2 (z ▸ ha)
    · rcases List.mem_append.mp hb with hb | hb
      · exact x.lt b hb
      · rw [List.mem_singleton] at hb; rw [hb]; exact ht
    · rcases List.mem_append.mp hb with hb | hb
      · exact x.so b hb
      · rw [List.mem_singleton] at hb; rw [hb]; exact hs q.1
  · rename_i q
    refine ⟨x, fun b hb => hb, fun hh => Classical.byContradiction fun z => q ⟨hh, z⟩⟩
theorem lookR_fnd {n : Nat} {rs : List Room} {L F : List Nat} {p : List Nat × List Nat} {r : Room} (h1 : r.1 < n) (h2 : r.2.1 < n) (hr : r ∈ rs) (hL : ∀ b ∈ L, Rch rs 0 b) (x : Fnd n rs L F p) : Fnd n rs L F (lookR L r p) ∧ (∀ b ∈ p.1, b ∈ (lookR L r p).1) ∧ (r.1 ∈ L → r.2.1 ∈ (lookR L r p).1) ∧ (r.2.1 ∈ L → r.1 ∈ (lookR L r p).1) := by
  obtain ⟨a1, a2, a3⟩ := look_fnd (h := r.1) h2 (fun q => Rch.down (hL _ q) hr) x
  obtain ⟨b1, b2, b3⟩ := look_fnd (h := r.2.1) h1 (fun q => Rch.up (hL _ q) hr) a1
  exact ⟨b1, fun b hb => b2 b (a2 b hb), fun q => b2 _ (a3 q), b3⟩
theorem rooms_look {n : Nat} {rs : List Room} (hn : n ≤ 80) (hi : In n rs) (L F : List Nat) (hF : F.Nodup) (hlt : ∀ b ∈ F, b < n) (hso : ∀ b ∈ F, Rch rs 0 b) (hL : ∀ b ∈ L, Rch rs 0 b) (s1 s5 s6 s7 s8 s9 : Sl) :
    ∃ p s5' s6' s7' s8' s9', Fnd n rs L F p ∧ (∀ r ∈ rs, (r.1 ∈ L → r.2.1 ∈ p.1) ∧ (r.2.1 ∈ L → r.1 ∈ p.1)) ∧ sFor (iSeq (eVar 0)) (gTup [(gSet 5), (gSet 6), (gSet 7)]) roomBody [.dat (roomsD rs), s1, .own (.dk (fndK F)), .dat (.list (natsL L)), .own (.lst (natsL [])), s5, s6, s7, s8, s9] = some (.nx, [.dat (roomsD rs), s1, .own (.dk (fndK p.1)), .dat (.list (natsL L)), .own (.lst (natsL p.2)), s5', s6', s7', s8', s9']) := by
  obtain ⟨ρ', e, p, s5', s6', s7', s8', s9', x, hx, rfl⟩ := forM_inv (g := gTup [(gSet 5), (gSet 6), (gSet 7)]) (b := roomBody) roomD rs
    (fun i ρ => ∃ (p : List Nat × List Nat) (s5 s6 s7 s8 s9 : Sl), Fnd n rs L F p ∧ (∀ r ∈ rs.take i, (r.1 ∈ L → r.2.1 ∈ p.1) ∧ (r.2.1 ∈ L → r.1 ∈ p.1)) ∧ ρ = [.dat (roomsD rs), s1, .own (.dk (fndK p.1)), .dat (.list (natsL L)), .own (.lst (natsL p.2)), s5, s6, s7, s8, s9])
    [.dat (roomsD rs), s1, .own (.dk (fndK F)), .dat (.list (natsL L)), .own (.lst (natsL [])), s5, s6, s7, s8, s9]
    (fun i r ρ hx hp => by
      obtain ⟨p, s5, s6, s7, s8, s9, x, hr, rfl⟩ := hp
      obtain ⟨h1, h2, _, _⟩ := hi r (List.mem_of_getElem? hx)
      have hl := x.len
      obtain ⟨s8', s9', e1⟩ := room_body L r p (by omega) (by omega) (.dat (roomsD rs)) s1 (.dat (fr r.2.2)) s8 s9
      obtain ⟨a1, a2, a3, a4⟩ := lookR_fnd h1 h2 (List.mem_of_getElem? hx) hL x
      refine ⟨_, _, rfl, e1, lookR L r p, .dat (.int r.1), .dat (.int r.2.1), .dat (fr r.2.2), s8', s9', a1, fun z hz => ?_, rfl⟩
      rw [take_get hx, List.mem_append] at hz
      rcases hz with hz | hz
      · exact ⟨fun q => a2 _ ((hr z hz).1 q), fun q => a2 _ ((hr z hz).2 q)⟩
      · rw [List.mem_singleton] at hz
        rw [hz]
        exact ⟨a3, a4⟩)
    ⟨(F, []), s5, s6, s7, s8, s9, ⟨by simp, hF, hlt, hso⟩, fun r hr => by simp at hr, rfl⟩
  rw [List.take_length] at hx
  refine ⟨p, s5', s6', s7', s8', s9', x, hx, ?_⟩
  unfold sFor
  exact e
/-- found, and what was found last -/
structure Lev (n : Nat) (rs : List Room) (L F : List Nat) : Prop where
  nd : F.Nodup
  lt : ∀ b ∈ F, b < n
  ze : 0 ∈ F
  so : ∀ b ∈ F, Rch rs 0 b
  sL : ∀ b ∈ L, b ∈ F
  cl : ∀ r ∈ rs, (r.1 ∈ F → ¬ r.1 ∈ L → r.2.1 ∈ F) ∧ (r.2.1 ∈ F → ¬ r.2.1 ∈ L → r.1 ∈ F)
def levBody : MS := (sSeq (sOwn 4 (oLst aNil)) (sSeq (sFor (iSeq (eVar 0)) (gTup [(gSet 5), (gSet 6), (gSet 7)]) roomBody) (sAsg (eVar 4) (gSet 3))))
theorem lev_loop {n : Nat} {rs : List Room} (hn : n ≤ 80) (hi : In n rs) (s1 : Sl) : ∀ (k : Nat) (L F : List Nat), Lev n rs L F → 2 * (n - F.length) + (if L.isEmpty then 0 else 1) < k → ∀ (s4 s5 s6 s7 s8 s9 : Sl),
    ∃ F' L' s4' s5' s6' s7' s8' s9', Lev n rs [] F' ∧ whileM (cV (eOp2 dNe (eVar 3) (eApp mkLst aNil))) levBody k [.dat (roomsD rs), s1, .own (.dk (fndK F)), .dat (.list (natsL L)), s4, s5, s6, s7, s8, s9] = some (.nx, [.dat (roomsD rs), s1, .own (.dk (fndK F')), .dat (.list (natsL L')), s4', s5', s6', s7', s8', s9'])
  | 0, L, F, _, h, _, _, _, _, _, _ => absurd h (Nat.not_lt_zero _)
  | k + 1, L, F, x, h, s4, s5, s6, s7, s8, s9 => by
    have ec : (cV (eOp2 dNe (eVar 3) (eApp mkLst aNil))) [.dat (roomsD rs), s1, .own (.dk (fndK F)), .dat (.list (natsL L)), s4, s5, s6, s7, s8, s9] = some (!L.isEmpty, [.dat (roomsD rs), s1, .own (.dk (fndK F)), .dat (.list (natsL L)), s4, s5, s6, s7, s8, s9]) := by
      simp only [sSeq, sIf, sNil, sAsg, sRet, sDrop, cV, cAnd, cOr, cNot, cTrue, eOp2, eOp1, eVar, eC, eApp, aCons, aNil, eIf, eAnd, eOr, eNot, eChain, eNeg, asB, dLt, dLe, dGt, dGe, dSub, dIx, dAbs, dMin, dMax, dLen, dList, dTuple, mkTup, mkLst, gSet, QL.gTup, gTupF, unTup, sPar2, xDat, xOwn, xNil, noScr, sOwn, oLst, iSeq, asSeq, iApp, endOf, List.map_cons, List.map_nil, List.length_cons, List.length_nil, List.length_set, List.replicate, List.cons_append, List.nil_append, List.getElem?_cons_zero, List.getElem?_cons_succ, List.getElem?_nil, Option.bind_some, Option.bind_none, Option.map_some, Option.map_none, List.set_cons_zero, List.set_cons_succ, List.set_nil, Bool.false_eq_true, if_false, if_true, ne_eq, not_false_eq_true, not_true_eq_false, and_self, and_true, true_and, Bool.not_true, Bool.not_false, Bool.and_true, Bool.true_and, Nat.reduceAdd, Nat.reduceSub, Nat.reduceLeDiff, Nat.reduceLT, Nat.reduceEqDiff, Nat.lt_irrefl, decide_true, decide_false, isa1, isa2, isa3, isa4, isa5, isa6, isa7, isa8, atI_0, atI_1, atI_2, atI_3, Option.getD_some, ownL, scrAt, dNe_nats]
    by_cases q : L = []
    · subst q
      refine ⟨F, [], s4, s5, s6, s7, s8, s9, x, ?_⟩
      unfold whileM
      rw [ec]; rfl
    · have hq : L.isEmpty = false := by cases L with | nil => exact absurd rfl q | cons a l => rfl
      obtain ⟨p, s5', s6', s7', s8', s9', y, hy, e⟩ := rooms_look hn hi L F x.nd x.lt x.so (fun b hb => x.so b (x.sL b hb)) s1 s5 s6 s7 s8 s9
      have hsub : ∀ b ∈ F, b ∈ p.1 := fun b hb => by rw [y.app]; exact List.mem_append_left _ hb
      have hlen := congrArg List.length y.app
      rw [List.length_append] at hlen
      have hl := y.len
      have x' : Lev n rs p.2 p.1 := ⟨y.nd, y.lt, hsub 0 x.ze, y.so, fun b hb => by rw [y.app]; exact List.mem_append_right _ hb, fun r hr => by
        have key : ∀ b, b ∈ p.1 → ¬ b ∈ p.2 → b ∈ F := fun b h1 h2 => by
          rw [y.app] at h1
          rcases List.mem_append.mp h1 with z | z
          · exact z
          · exact absurd z h2
        refine ⟨fun h1 h2 => ?_, fun h1 h2 => ?_⟩
        · rcases Classical.em (r.1 ∈ L) with z | z
          · exact (hy r hr).1 z
          · exact hsub _ ((x.cl r hr).1 (key _ h1 h2) z)
        · rcases Classical.em (r.2.1 ∈ L) with z | z
          · exact (hy r hr).2 z
          · exact hsub _ ((x.cl r hr).2 (key _ h1 h2) z)⟩
      have hlt : 2 * (n - p.1.length) + (if p.2.isEmpty then 0 else 1) < k := by
        rw [hq] at h
        simp only [Bool.false_eq_true, if_false] at h
        cases hp : p.2 with
        | nil =>
          rw [hp] at hlen
          simp at hlen ⊢
          omega
        | cons a l =>
          rw [hp] at hlen
          simp at hlen ⊢
          omega
      obtain ⟨F', L', t4, t5, t6, t7, t8, t9, z, e2⟩ := lev_loop hn hi s1 k p.2 p.1 x' hlt (.dat (.list (natsL p.2))) s5' s6' s7' s8' s9'
      refine ⟨F', L', t4, t5, t6, t7, t8, t9, z, ?_⟩
      have eb : levBody [.dat (roomsD rs), s1, .own (.dk (fndK F)), .dat (.list (natsL L)), s4, s5, s6, s7, s8, s9] = some (.nx, [.dat (roomsD rs), s1, .own (.dk (fndK p.1)), .dat (.list (natsL p.2)), .dat (.list (natsL p.2)), s5', s6', s7', s8', s9']) := by
        have e' : sFor (iSeq (eVar 0)) (gTup [(gSet 5), (gSet 6), (gSet 7)]) roomBody [.dat (roomsD rs), s1, .own (.dk (fndK F)), .dat (.list (natsL L)), .own (.lst []), s5, s6, s7, s8, s9] = some (.nx, [.dat (roomsD rs), s1, .own (.dk (fndK p.1)), .dat (.list (natsL L)), .own (.lst (natsL p.2)), s5', s6', s7', s8', s9']) := e
        unfold levBody
        simp only [sSeq, sOwn, oLst, aNil, Option.bind_some, List.length_nil, Nat.zero_le, if_true, Option.map_some, List.set_cons_succ, List.set_cons_zero, e', sAsg, eVar, List.getElem?_cons_succ, List.getElem?_cons_zero, gSet]
      unfold whileM
      rw [ec, hq, Option.bind_some]
      simp only [Bool.not_false, if_true]
      rw [eb, Option.bind_some]
      exact e2
theorem lev_all {n : Nat} {rs : List Room} {F : List Nat} (h : Plan n rs) (x : Lev n rs [] F) : ∀ b, b < n → b ∈ F := fun b hb => by
  have c := h.con b hb
  induction c with
  | refl => exact x.ze
  | @down r _ hr ih =>
    exact (x.cl r hr).1 (ih (h.inn r hr).1) (by simp)
  | @up r _ hr ih =>
    exact (x.cl r hr).2 (ih (h.inn r hr).2.1) (by simp)
theorem ints_nats (l : List Nat) : intsOf (natsL l) = some (l.map fun (b : Nat) => (b : Int)) := by
  induction l with
  | nil => rfl
  | cons a l ih => show (intsOf (natsL l)).map _ = _; rw [ih]; rfl
theorem sorted_range {n : Nat} {F : List Nat} (hn : F.Nodup) (h1 : ∀ b ∈ F, b < n) (h2 : ∀ b, b < n → b ∈ F) : (F.map fun (b : Nat) => (b : Int)).mergeSort (fun a b => decide (a ≤ b)) = (List.range n).map fun (b : Nat) => (b : Int) := by
  have p1 : F.Perm (List.range n) := (List.perm_ext_iff_of_nodup hn List.nodup_range).mpr fun a => ⟨fun h => List.mem_range.mpr (h1 a h), fun h => h2 a (List.mem_range.mp h)⟩
  refine List.Perm.eq_of_pairwise (le := fun a b : Int => a ≤ b) (fun a b _ _ h1 h2 => by omega) ?_ ?_ ((List.mergeSort_perm _ _).trans (p1.map _))
  · have := List.pairwise_mergeSort (le := fun a b : Int => decide (a ≤ b)) (fun a b c h1 h2 => by simp at h1 h2 ⊢; omega) (fun a b => by simp; omega) (F.map fun (b : Nat) => (b : Int))
    refine List.Pairwise.imp (fun h => ?_) this
    simpa using h
  · rw [List.pairwise_map]
    refine List.Pairwise.imp (fun h => ?_) (List.pairwise_lt_range (n := n))
    omega
theorem F_joined_gen {n : Nat} {rs : List Room} (hi : In n rs) (h2 : 2 ≤ n) (h6 : n ≤ 6) : ∃ F : List Nat, F_joined_from [roomsD rs, .int 0] = some (.list (((F.map fun (b : Nat) => (b : Int)).mergeSort (fun a b => decide (a ≤ b))).map PyData.int)) ∧ Lev n rs [] F := by
  obtain ⟨F, L, s4, s5, s6, s7, s8, s9, x, e⟩ := lev_loop (n := n) (rs := rs) (by omega) hi (.dat (.int 0)) 100 [0] [0] ⟨by simp, fun b hb => by simp at hb; omega, by simp, fun b hb => by simp at hb; rw [hb]; exact .refl 0, fun b hb => hb, fun r hr => ⟨fun a b => by simp at a b; exact absurd a b, fun a b => by simp at a b; exact absurd a b⟩⟩ (by simp; omega) .un .un .un .un .un .un
  refine ⟨F, ?_, x⟩
  have el : (fndK F).map (fun p => PyData.int p.1) = natsL F := by unfold fndK natsL; rw [List.map_map]; rfl
  have ep : pairs2 [.int 0, .bool true] = some [((0 : Int), .bool true)] := rfl
  unfold levBody roomBody lookBody at e
  have e' : whileM (cV (eOp2 dNe (eVar 3) (eApp mkLst aNil))) (sSeq (sOwn 4 (oLst aNil)) (sSeq (sFor (iSeq (eVar 0)) (gTup [(gSet 5), (gSet 6), (gSet 7)]) (sFor (iSeq (eApp mkTup (aCons (eApp mkTup (aCons (eVar 5) (aCons (eVar 6) aNil))) (aCons (eApp mkTup (aCons (eVar 6) (aCons (eVar 5) aNil))) aNil)))) (gTup [(gSet 8), (gSet 9)]) (sIf (cAnd (cV (eOp2 dIn (eVar 8) (eVar 3))) (cV (eNotInOK 2 (eVar 9)))) (sSeq (sPutK 2 (eVar 9) (eC (.bool true))) (sDrop (eAppend 4 (eVar 9)))) sNil))) (sAsg (eVar 4) (gSet 3)))) 100 [.dat (roomsD rs), .dat (.int 0), .own (.dk [((0 : Int), .bool true)]), .dat (.list [.int 0]), .un, .un, .un, .un, .un, .un] = some (.nx, [.dat (roomsD rs), .dat (.int 0), .own (.dk (fndK F)), .dat (.list (natsL L)), s4, s5, s6, s7, s8, s9]) := e
  unfold F_joined_from runF B_joined_from
  simp only [List.length_cons, List.length_nil, Nat.reduceAdd, if_true, List.map_cons, List.map_nil, Nat.reduceSub, List.replicate, List.cons_append, List.nil_append, sSeq, sPar2, xOwn, xDat, xNil, oDict, aCons, aNil, eVar, eC, List.getElem?_cons_zero, List.getElem?_cons_succ, Option.bind_some, Option.map_some, ep, Nat.reduceLeDiff, eApp, mkLst, noScr, Bool.and_self, Bool.true_and, Nat.reduceLT, decide_true, List.set_cons_succ, List.set_cons_zero, sWhile, fu_joined_from]
  rw [e']
  simp only [Option.bind_some, sRet, eApp, aCons, eListOK, ownK, List.getElem?_cons_succ, List.getElem?_cons_zero, Option.map_some, aNil, dSortedI, el, ints_nats, endOf]
theorem F_joined_from_eq {n : Nat} {rs : List Room} (h : Plan n rs) : F_joined_from [roomsD rs, .int 0] = some (.list (natsL (List.range n))) := by
  obtain ⟨F, e, x⟩ := F_joined_gen h.inn h.two h.six
  rw [e, sorted_range x.nd x.lt (lev_all h x), natsL_ints]

end QP
set_option Elab.async false
set_option linter.all false
set_option maxRecDepth 100000
set_option maxHeartbeats 1000000
namespace QP
open PySem PySem.Spec PyProof.Rows L2 QL
theorem whole_eq (i lo hi : Int) : F_is_whole [.int i, .int lo, .int hi] = some (.bool (decide (lo ≤ i) && decide (i ≤ hi))) := by
  unfold F_is_whole runF B_is_whole
  by_cases h : lo ≤ i
  · simp only [sSeq, sIf, sNil, sAsg, sRet, sDrop, cV, cAnd, cOr, cNot, cTrue, eOp2, eOp1, eVar, eC, eApp, aCons, aNil, eIf, eAnd, eOr, eNot, eChain, eNeg, asB, dLt, dLe, dGt, dGe, dSub, dIx, dAbs, dMin, dMax, dLen, dList, dTuple, mkTup, mkLst, gSet, QL.gTup, gTupF, unTup, sPar2, xDat, xOwn, xNil, noScr, sOwn, oLst, iSeq, asSeq, iApp, endOf, List.map_cons, List.map_nil, List.length_cons, List.length_nil, List.length_set, List.replicate, List.cons_append, List.nil_append, List.getElem?_cons_zero, List.getElem?_cons_succ, List.getElem?_nil, Option.bind_some, Option.bind_none, Option.map_some, Option.map_none, List.set_cons_zero, List.set_cons_succ, List.set_nil, Bool.false_eq_true, if_false, if_true, ne_eq, not_false_eq_true, not_true_eq_false, and_self, and_true, true_and, Bool.not_true, Bool.not_false, Bool.and_true, Bool.true_and, Nat.reduceAdd, Nat.reduceSub, Nat.reduceLeDiff, Nat.reduceLT, Nat.reduceEqDiff, Nat.lt_irrefl, decide_true, decide_false, isa1, isa2, isa3, isa4, isa5, isa6, isa7, isa8, atI_0, atI_1, atI_2, atI_3, Option.getD_some, ownL, scrAt, any_int, decide_eq_true h]
  · simp only [sSeq, sIf, sNil, sAsg, sRet, sDrop, cV, cAnd, cOr, cNot, cTrue, eOp2, eOp1, eVar, eC, eApp, aCons, aNil, eIf, eAnd, eOr, eNot, eChain, eNeg, asB, dLt, dLe, dGt, dGe, dSub, dIx, dAbs, dMin, dMax, dLen, dList, dTuple, mkTup, mkLst, gSet, QL.gTup, gTupF, unTup, sPar2, xDat, xOwn, xNil, noScr, sOwn, oLst, iSeq, asSeq, iApp, endOf, List.map_cons, List.map_nil, List.length_cons, List.length_nil, List.length_set, List.replicate, List.cons_append, List.nil_append, List.getElem?_cons_zero, List.getElem?_cons_succ, List.getElem?_nil, Option.bind_some, Option.bind_none, Option.map_some, Option.map_none, List.set_cons_zero, List.set_cons_succ, List.set_nil, Bool.false_eq_true, if_false, if_true, ne_eq, not_false_eq_true, not_true_eq_false, and_self, and_true, true_and, Bool.not_true, Bool.not_false, Bool.and_true, Bool.true_and, Nat.reduceAdd, Nat.reduceSub, Nat.reduceLeDiff, Nat.reduceLT, Nat.reduceEqDiff, Nat.lt_irrefl, decide_true, decide_false, isa1, isa2, isa3, isa4, isa5, isa6, isa7, isa8, atI_0, atI_1, atI_2, atI_3, Option.getD_some, ownL, scrAt, any_int, decide_eq_false h, Bool.false_and]
theorem ne33 : dNe (.int ((3 : Nat) : Int)) (.int 3) = some (.bool false) := rfl
theorem room_true {n : Nat} {r : Room} (h1 : r.1 < n) (h2 : r.2.1 < n) (h3 : r.1 ≠ r.2.1) (h4 : 0 < r.2.2) : F_is_room [.int n, roomD r] = some (.bool true) := by
  have w1 : F_is_whole [.int (r.1 : Int), .int 0, .int ((n : Int) - 1)] = some (.bool true) := by
    rw [whole_eq, decide_eq_true (by omega), decide_eq_true (by omega)]; rfl
  have w2 : F_is_whole [.int (r.2.1 : Int), .int 0, .int ((n : Int) - 1)] = some (.bool true) := by
    rw [whole_eq, decide_eq_true (by omega), decide_eq_true (by omega)]; rfl
  have e1 : dSlice (.tuple [.int (r.1 : Int), .int (r.2.1 : Int), fr r.2.2]) none (some 2) = some (.tuple [.int (r.1 : Int), .int (r.2.1 : Int)]) := rfl
  have e2 : dNe (.int (r.1 : Int)) (.int (r.2.1 : Int)) = some (.bool true) := by
    rw [dNe_int]
    have : ¬ (r.1 : Int) = r.2.1 := by omega
    simp [this]
  have e3 := prop_true h4
  unfold F_is_room runF B_is_room roomD
  simp only [sSeq, sIf, sNil, sAsg, sRet, sDrop, cV, cAnd, cOr, cNot, cTrue, eOp2, eOp1, eVar, eC, eApp, aCons, aNil, eIf, eAnd, eOr, eNot, eChain, eNeg, asB, dLt, dLe, dGt, dGe, dSub, dIx, dAbs, dMin, dMax, dLen, dList, dTuple, mkTup, mkLst, gSet, QL.gTup, gTupF, unTup, sPar2, xDat, xOwn, xNil, noScr, sOwn, oLst, iSeq, asSeq, iApp, endOf, List.map_cons, List.map_nil, List.length_cons, List.length_nil, List.length_set, List.replicate, List.cons_append, List.nil_append, List.getElem?_cons_zero, List.getElem?_cons_succ, List.getElem?_nil, Option.bind_some, Option.bind_none, Option.map_some, Option.map_none, List.set_cons_zero, List.set_cons_succ, List.set_nil, Bool.false_eq_true, if_false, if_true, ne_eq, not_false_eq_true, not_true_eq_false, and_self, and_true, true_and, Bool.not_true, Bool.not_false, Bool.and_true, Bool.true_and, Nat.reduceAdd, Nat.reduceSub, Nat.reduceLeDiff, Nat.reduceLT, Nat.reduceEqDiff, Nat.lt_irrefl, decide_true, decide_false, isa1, isa2, isa3, isa4, isa5, isa6, isa7, isa8, atI_0, atI_1, atI_2, atI_3, Option.getD_some, ownL, scrAt, ne33, eSlice, pNone, pSome, e1, eLc, oLc, wipeR, lcM, w1, w2, backR, keepD, dAll, bools, List.all_cons, List.all_nil, id, Nat.zero_lt_succ, Nat.reduceLT, e2, e3]
theorem bools_true {α : Type} : ∀ l : List α, bools (l.map fun _ => .bool true) = some (l.map fun _ => true)
  | [] => rfl
  | a :: l => by show (bools (l.map fun _ => .bool true)).map _ = _; rw [bools_true l]; rfl
theorem all_true {α : Type} : ∀ l : List α, (l.map fun _ => true).all id = true
  | [] => rfl
  | a :: l => by show (id true && (l.map fun _ => true).all id) = true; rw [all_true l]; rfl
theorem dEq_refl {d : D} (h : SeqAt.shaped d = true) (h2 : PyData.eqv d d = true) : dEq d d = some (.bool true) := by
  unfold dEq
  rw [if_pos ⟨h, h⟩, h2]
theorem eqv_nats (l : List Nat) : PyData.eqv (.list (natsL l)) (.list (natsL l)) = true := by
  have : ∀ l : List Nat, PyData.eqvAll (natsL l) (natsL l) = true := by
    intro l
    induction l with
    | nil => rfl
    | cons a l ih =>
      show (PyData.eqv (.int (a : Int)) (.int (a : Int)) && PyData.eqvAll (natsL l) (natsL l)) = true
      rw [ih]
      simp [PyData.eqv]
  exact this l
theorem hangs_true {n : Nat} {rs : List Room} (h : Plan n rs) : F_hangs_together [.int n, roomsD rs] = some (.bool true) := by
  have h6 := h.six
  have e1 := F_joined_from_eq h
  have e2 : dListRange [.int (n : Int)] = some (.list (natsL (List.range n))) := by
    have eb : rgBnd [.int (n : Int)] = some (0, (n : Int)) := by
      unfold rgBnd
      have : rgB 0 (n : Int) = true := by unfold rgB; exact decide_eq_true ⟨by omega, by omega, by omega⟩
      simp only [this, if_true]
    unfold dListRange
    rw [eb]
    show some (PyData.list (intsD 0 ((n : Int) - 0).toNat)) = _
    have : ((n : Int) - 0).toNat = n := by omega
    rw [this]
    congr 2
    unfold intsD natsL
    refine List.map_congr_left fun i _ => ?_
    congr 1
    omega
  have e3 := dEq_refl (shaped_nats (List.range n)) (eqv_nats _)
  unfold F_hangs_together runF B_hangs_together
  simp only [sSeq, sIf, sNil, sAsg, sRet, sDrop, cV, cAnd, cOr, cNot, cTrue, eOp2, eOp1, eVar, eC, eApp, aCons, aNil, eIf, eAnd, eOr, eNot, eChain, eNeg, asB, dLt, dLe, dGt, dGe, dSub, dIx, dAbs, dMin, dMax, dLen, dList, dTuple, mkTup, mkLst, gSet, QL.gTup, gTupF, unTup, sPar2, xDat, xOwn, xNil, noScr, sOwn, oLst, iSeq, asSeq, iApp, endOf, List.map_cons, List.map_nil, List.length_cons, List.length_nil, List.length_set, List.replicate, List.cons_append, List.nil_append, List.getElem?_cons_zero, List.getElem?_cons_succ, List.getElem?_nil, Option.bind_some, Option.bind_none, Option.map_some, Option.map_none, List.set_cons_zero, List.set_cons_succ, List.set_nil, Bool.false_eq_true, if_false, if_true, ne_eq, not_false_eq_true, not_true_eq_false, and_self, and_true, true_and, Bool.not_true, Bool.not_false, Bool.and_true, Bool.true_and, Nat.reduceAdd, Nat.reduceSub, Nat.reduceLeDiff, Nat.reduceLT, Nat.reduceEqDiff, Nat.lt_irrefl, decide_true, decide_false, isa1, isa2, isa3, isa4, isa5, isa6, isa7, isa8, atI_0, atI_1, atI_2, atI_3, Option.getD_some, ownL, scrAt, e1, e2, e3]
theorem F_good_plan_eq {n : Nat} {rs : List Room} (h : Plan n rs) : F_good_plan [planD n rs] = some (.bool true) := by
  have h2 := h.two
  have h6 := h.six
  have h1 := h.one
  have h15 := h.few
  have w : F_is_whole [.int (n : Int), .int 2, .int 6] = some (.bool true) := by
    rw [whole_eq, decide_eq_true (by omega), decide_eq_true (by omega)]; rfl
  have e1 := hangs_true h
  have key := eLcT (vs := [1]) (ρ := [.dat (planD n rs), .un]) (it := iSeq (eOp2 dIx (eVar 0) (eC (.int 1)))) (tg := gSet 1) (m := eApp F_is_room (aCons (eOp2 dIx (eVar 0) (eC (.int 0))) (aCons (eVar 1) aNil)))
    roomD (fun _ => .bool true) (fun r => [.dat (planD n rs), .dat (roomD r)]) rs (by unfold planD roomsD; simp only [sSeq, sIf, sNil, sAsg, sRet, sDrop, cV, cAnd, cOr, cNot, cTrue, eOp2, eOp1, eVar, eC, eApp, aCons, aNil, eIf, eAnd, eOr, eNot, eChain, eNeg, asB, dLt, dLe, dGt, dGe, dSub, dIx, dAbs, dMin, dMax, dLen, dList, dTuple, mkTup, mkLst, gSet, QL.gTup, gTupF, unTup, sPar2, xDat, xOwn, xNil, noScr, sOwn, oLst, iSeq, asSeq, iApp, endOf, List.map_cons, List.map_nil, List.length_cons, List.length_nil, List.length_set, List.replicate, List.cons_append, List.nil_append, List.getElem?_cons_zero, List.getElem?_cons_succ, List.getElem?_nil, Option.bind_some, Option.bind_none, Option.map_some, Option.map_none, List.set_cons_zero, List.set_cons_succ, List.set_nil, Bool.false_eq_true, if_false, if_true, ne_eq, not_false_eq_true, not_true_eq_false, and_self, and_true, true_and, Bool.not_true, Bool.not_false, Bool.and_true, Bool.true_and, Nat.reduceAdd, Nat.reduceSub, Nat.reduceLeDiff, Nat.reduceLT, Nat.reduceEqDiff, Nat.lt_irrefl, decide_true, decide_false, isa1, isa2, isa3, isa4, isa5, isa6, isa7, isa8, atI_0, atI_1, atI_2, atI_3, Option.getD_some, ownL, scrAt]) (by omega)
    (fun r hr => by
      obtain ⟨a1, a2, a3, a4⟩ := h.inn r hr
      have := room_true a1 a2 a3 a4
      refine ⟨rfl, ?_, rfl⟩
      unfold planD
      simp only [sSeq, sIf, sNil, sAsg, sRet, sDrop, cV, cAnd, cOr, cNot, cTrue, eOp2, eOp1, eVar, eC, eApp, aCons, aNil, eIf, eAnd, eOr, eNot, eChain, eNeg, asB, dLt, dLe, dGt, dGe, dSub, dIx, dAbs, dMin, dMax, dLen, dList, dTuple, mkTup, mkLst, gSet, QL.gTup, gTupF, unTup, sPar2, xDat, xOwn, xNil, noScr, sOwn, oLst, iSeq, asSeq, iApp, endOf, List.map_cons, List.map_nil, List.length_cons, List.length_nil, List.length_set, List.replicate, List.cons_append, List.nil_append, List.getElem?_cons_zero, List.getElem?_cons_succ, List.getElem?_nil, Option.bind_some, Option.bind_none, Option.map_some, Option.map_none, List.set_cons_zero, List.set_cons_succ, List.set_nil, Bool.false_eq_true, if_false, if_true, ne_eq, not_false_eq_true, not_true_eq_false, and_self, and_true, true_and, Bool.not_true, Bool.not_false, Bool.and_true, Bool.true_and, Nat.reduceAdd, Nat.reduceSub, Nat.reduceLeDiff, Nat.reduceLT, Nat.reduceEqDiff, Nat.lt_irrefl, decide_true, decide_false, isa1, isa2, isa3, isa4, isa5, isa6, isa7, isa8, atI_0, atI_1, atI_2, atI_3, Option.getD_some, ownL, scrAt, this])
    rfl
  have d1 : decide ((1 : Int) ≤ (rs.length : Int)) = true := decide_eq_true (by omega)
  have d2 : decide ((rs.length : Int) ≤ 15) = true := decide_eq_true (by omega)
  unfold F_good_plan runF B_good_plan
  unfold planD roomsD at key e1 ⊢
  simp only [sSeq, sIf, sNil, sAsg, sRet, sDrop, cV, cAnd, cOr, cNot, cTrue, eOp2, eOp1, eVar, eC, eApp, aCons, aNil, eIf, eAnd, eOr, eNot, eChain, eNeg, asB, dLt, dLe, dGt, dGe, dSub, dIx, dAbs, dMin, dMax, dLen, dList, dTuple, mkTup, mkLst, gSet, QL.gTup, gTupF, unTup, sPar2, xDat, xOwn, xNil, noScr, sOwn, oLst, iSeq, asSeq, iApp, endOf, List.map_cons, List.map_nil, List.length_cons, List.length_nil, List.length_set, List.replicate, List.cons_append, List.nil_append, List.getElem?_cons_zero, List.getElem?_cons_succ, List.getElem?_nil, Option.bind_some, Option.bind_none, Option.map_some, Option.map_none, List.set_cons_zero, List.set_cons_succ, List.set_nil, Bool.false_eq_true, if_false, if_true, ne_eq, not_false_eq_true, not_true_eq_false, and_self, and_true, true_and, Bool.not_true, Bool.not_false, Bool.and_true, Bool.true_and, Nat.reduceAdd, Nat.reduceSub, Nat.reduceLeDiff, Nat.reduceLT, Nat.reduceEqDiff, Nat.lt_irrefl, decide_true, decide_false, isa1, isa2, isa3, isa4, isa5, isa6, isa7, isa8, atI_0, atI_1, atI_2, atI_3, Option.getD_some, ownL, scrAt, ne22, w, d1, d2, List.length_map, key, dAll, bools_true, all_true, e1]
theorem F_need_plan_eq {n : Nat} {rs : List Room} (h : Plan n rs) : F_need_plan [planD n rs] = some .none := by
  have e := F_good_plan_eq h
  unfold F_need_plan runF B_need_plan
  simp only [sSeq, sIf, sNil, sAsg, sRet, sDrop, cV, cAnd, cOr, cNot, cTrue, eOp2, eOp1, eVar, eC, eApp, aCons, aNil, eIf, eAnd, eOr, eNot, eChain, eNeg, asB, dLt, dLe, dGt, dGe, dSub, dIx, dAbs, dMin, dMax, dLen, dList, dTuple, mkTup, mkLst, gSet, QL.gTup, gTupF, unTup, sPar2, xDat, xOwn, xNil, noScr, sOwn, oLst, iSeq, asSeq, iApp, endOf, List.map_cons, List.map_nil, List.length_cons, List.length_nil, List.length_set, List.replicate, List.cons_append, List.nil_append, List.getElem?_cons_zero, List.getElem?_cons_succ, List.getElem?_nil, Option.bind_some, Option.bind_none, Option.map_some, Option.map_none, List.set_cons_zero, List.set_cons_succ, List.set_nil, Bool.false_eq_true, if_false, if_true, ne_eq, not_false_eq_true, not_true_eq_false, and_self, and_true, true_and, Bool.not_true, Bool.not_false, Bool.and_true, Bool.true_and, Nat.reduceAdd, Nat.reduceSub, Nat.reduceLeDiff, Nat.reduceLT, Nat.reduceEqDiff, Nat.lt_irrefl, decide_true, decide_false, isa1, isa2, isa3, isa4, isa5, isa6, isa7, isa8, atI_0, atI_1, atI_2, atI_3, Option.getD_some, ownL, scrAt, e]

end QP
set_option Elab.async false
set_option linter.all false
set_option maxRecDepth 100000
set_option maxHeartbeats 1000000
namespace QP
open PySem PySem.Spec PyProof.Rows L2 QL
/-- the told levels of ceiling and floor -/
def topFx (n : Nat) : Fx := [(0, 0), (n - 1, 1)]
theorem top_keys (n : Nat) : keys (topFx n) = [0, n - 1] := rfl
/-- all proportions of a plan over one number below -/
structure Sml (n s B : Nat) (d : Int) (rs : List Room) : Prop where
  plan : Plan n rs
  nz : d ≠ 0
  dl : d.natAbs < 2 ^ s
  cd : ∀ r ∈ rs, Cd d B r.2.2
  big : 46 * B < 2 ^ s
  sml : s + s ≤ 8990
theorem Sml.top {n s B : Nat} {d : Int} {rs : List Room} (h : Sml n s B d rs) : LvOk n s B 0 d rs (fun _ => 0) (topFx n) where
  plan := h.plan
  nz := h.nz
  dl := h.dl
  cd := h.cd
  zo := fun p hp => by
    unfold topFx at hp
    simp only [List.mem_cons, List.not_mem_nil, or_false] at hp
    rcases hp with rfl | rfl
    · exact .inl rfl
    · exact .inr rfl
  lv := fun _ _ => Cd.zero d
  big := by
    have h1 := h.plan.few
    have h2 := h.big
    show 0 + (2 + 1) * (rs.length * B) < 2 ^ s
    have : rs.length * B ≤ 15 * B := Nat.mul_le_mul_right _ h1
    omega
  sml := h.sml
  nd := by
    have := h.plan.two
    rw [top_keys]
    simp
    omega
  lt := fun f hf => by
    have := h.plan.two
    rw [top_keys] at hf
    simp at hf
    omega
  ne := by unfold topFx; simp
theorem filter_two (n a b : Nat) (ha : a < n) (hb : b < n) (hab : a ≠ b) : (freeL n [(a, x), (b, y)]).length ≤ n - 2 := by
  have h1 : (a :: b :: freeL n [(a, x), (b, y)]).Nodup := by
    rw [List.nodup_cons, List.nodup_cons]
    refine ⟨fun z => ?_, fun z => ?_, free_nodup _ _⟩
    · rcases List.mem_cons.mp z with q | q
      · exact hab q
      · exact (free_mem.mp q).2 (by simp [keys])
    · exact (free_mem.mp z).2 (by simp [keys])
  have h2 := List.Nodup.length_le_of_subset (l₂ := List.range n) h1 fun c hc => by
    rw [List.mem_range]
    rcases List.mem_cons.mp hc with q | q
    · omega
    · rcases List.mem_cons.mp q with q | q
      · omega
      · exact (free_mem.mp q).1
  rw [List.length_range] at h2
  simp at h2
  omega
theorem rep_row (n : Nat) (h : n ≤ 1000) : dMul (.list [fr 0]) (.int n) = some (rowD n fun _ => 0) := by
  have hr : (0 : Int) ≤ n ∧ (n : Int) ≤ 1000 ∧ [fr 0].length ≤ 1000 := ⟨by omega, by omega, by decide⟩
  show (if (0 : Int) ≤ n ∧ (n : Int) ≤ 1000 ∧ [fr 0].length ≤ 1000 then some (PyData.list (List.replicate (n : Int).toNat [fr 0]).flatten) else none) = _
  rw [if_pos hr, Int.toNat_natCast, rep_flat]; rfl
/-- the levels of a plan -/
abbrev Lvl (n : Nat) (rs : List Room) (u : Nat → Rat) : Prop := Sol n rs (fun _ => 0) (topFx n) u
theorem F_levels_of_eq {n s B M : Nat} {d : Int} {rs : List Room} (h : Sml n s B d rs) (hM : n ≤ M + 2) (hs : 3 * grw s M ≤ 9000) :
    ∃ u, F_levels_of [planD n rs] = some (.tuple (rowL n u)) ∧ Lvl n rs u ∧ CdU n (grw s M) u := by
  have h2 := h.plan.two
  have h6 := h.plan.six
  obtain ⟨u, e, hu, hz⟩ := F_levels_by_eq (M := M) h.top (by have := filter_two (x := (0 : Rat)) (y := 1) n 0 (n - 1) (by omega) (by omega) (by omega); unfold topFx; omega) hs
  refine ⟨u, ?_, hu, hz⟩
  have ed : mkDict [.int 0, fr 0, .int ((n : Int) - 1), fr 1] = some (fxD (topFx n)) := by
    have e1 : ((n : Int) - 1) = ((n - 1 : Nat) : Int) := by omega
    rw [e1]
    have hne : ¬ ((n - 1 : Nat) : Int) = 0 := by omega
    have e2 : pairs2 [.int 0, fr 0, .int ((n - 1 : Nat) : Int), fr 1] = some [((0 : Int), fr 0), (((n - 1 : Nat) : Int), fr 1)] := by
      simp [pairs2]
      omega
    unfold mkDict
    rw [e2]; rfl
  have er := rep_row n (by omega)
  unfold F_levels_of runF B_levels_of
  rw [← fr0, ← fr1]
  unfold planD
  simp only [sSeq, sIf, sNil, sAsg, sRet, sDrop, cV, cAnd, cOr, cNot, cTrue, eOp2, eOp1, eVar, eC, eApp, aCons, aNil, eIf, eAnd, eOr, eNot, eChain, eNeg, asB, dLt, dLe, dGt, dGe, dSub, dIx, dAbs, dMin, dMax, dLen, dList, dTuple, mkTup, mkLst, gSet, QL.gTup, gTupF, unTup, sPar2, xDat, xOwn, xNil, noScr, sOwn, oLst, iSeq, asSeq, iApp, endOf, List.map_cons, List.map_nil, List.length_cons, List.length_nil, List.length_set, List.replicate, List.cons_append, List.nil_append, List.getElem?_cons_zero, List.getElem?_cons_succ, List.getElem?_nil, Option.bind_some, Option.bind_none, Option.map_some, Option.map_none, List.set_cons_zero, List.set_cons_succ, List.set_nil, Bool.false_eq_true, if_false, if_true, ne_eq, not_false_eq_true, not_true_eq_false, and_self, and_true, true_and, Bool.not_true, Bool.not_false, Bool.and_true, Bool.true_and, Nat.reduceAdd, Nat.reduceSub, Nat.reduceLeDiff, Nat.reduceLT, Nat.reduceEqDiff, Nat.lt_irrefl, decide_true, decide_false, isa1, isa2, isa3, isa4, isa5, isa6, isa7, isa8, atI_0, atI_1, atI_2, atI_3, Option.getD_some, ownL, scrAt, ed, er, e]

end QP
set_option Elab.async false
set_option linter.all false
set_option maxRecDepth 100000
set_option maxHeartbeats 1000000
namespace QP
open PySem PySem.Spec PyProof.Rows L2 QL
/-! ### sums of fractions -/
def rsum : List Rat → Rat
  | [] => 0
  | x :: xs => x + rsum xs
theorem rsum_app : ∀ xs ys : List Rat, rsum (xs ++ ys) = rsum xs + rsum ys
  | [], ys => by show rsum ys = 0 + rsum ys; grind
  | x :: xs, ys => by
    show x + rsum (xs ++ ys) = (x + rsum xs) + rsum ys
    rw [rsum_app xs ys]; grind
theorem rsum_sz {W : Nat} : ∀ (xs : List Rat), (∀ x ∈ xs, Sz W x) → Sz (xs.length * (W + 1) + 1) (rsum xs)
  | [], _ => (show Sz 1 0 from ⟨by decide, by decide⟩).mono (by simp)
  | x :: xs, h => by
    have ih := rsum_sz xs fun z hz => h z (List.mem_cons_of_mem _ hz)
    have := (h x List.mem_cons_self).add ih
    show Sz _ (x + rsum xs)
    refine this.mono ?_
    rw [List.length_cons, Nat.add_mul]; omega
theorem F_total_eq {W : Nat} {xs : List Rat} (h : ∀ x ∈ xs, Sz W x) (hs : (xs.length + 1) * (W + 1) + 1 ≤ 9000) : F_total [.list (xs.map fr)] = some (fr (rsum xs)) := by
  obtain ⟨ρ', e, s2, rfl⟩ := forM_inv (g := gSet 2) (b := sAsg (eApp F_plus (aCons (eVar 1) (aCons (eVar 2) aNil))) (gSet 1)) fr xs (fun i ρ => ∃ s2, ρ = [.dat (.list (xs.map fr)), .dat (fr (rsum (xs.take i))), s2])
    [.dat (.list (xs.map fr)), .dat (fr 0), .un]
    (fun i x ρ hx hp => by
      obtain ⟨s2, rfl⟩ := hp
      have hi := (List.getElem?_eq_some_iff.mp hx).1
      have z1 := rsum_sz (xs.take i) fun z hz => h z (List.mem_of_mem_take hz)
      rw [List.length_take, Nat.min_eq_left (by omega)] at z1
      have hb : i * (W + 1) ≤ xs.length * (W + 1) := Nat.mul_le_mul_right _ (by omega)
      have hs' : xs.length * (W + 1) + (W + 1) + 1 ≤ 9000 := by rw [Nat.add_mul, Nat.one_mul] at hs; exact hs
      have e1 := F_plus_eq z1 (h x (List.mem_of_getElem? hx)) (by omega)
      refine ⟨_, _, rfl, ?_, .dat (fr x), rfl⟩
      simp only [sSeq, sIf, sNil, sAsg, sRet, sDrop, cV, cAnd, cOr, cNot, cTrue, eOp2, eOp1, eVar, eC, eApp, aCons, aNil, eIf, eAnd, eOr, eNot, eChain, eNeg, asB, dLt, dLe, dGt, dGe, dSub, dIx, dAbs, dMin, dMax, dLen, dList, dTuple, mkTup, mkLst, gSet, QL.gTup, gTupF, unTup, sPar2, xDat, xOwn, xNil, noScr, sOwn, oLst, iSeq, asSeq, iApp, endOf, List.map_cons, List.map_nil, List.length_cons, List.length_nil, List.length_set, List.replicate, List.cons_append, List.nil_append, List.getElem?_cons_zero, List.getElem?_cons_succ, List.getElem?_nil, Option.bind_some, Option.bind_none, Option.map_some, Option.map_none, List.set_cons_zero, List.set_cons_succ, List.set_nil, Bool.false_eq_true, if_false, if_true, ne_eq, not_false_eq_true, not_true_eq_false, and_self, and_true, true_and, Bool.not_true, Bool.not_false, Bool.and_true, Bool.true_and, Nat.reduceAdd, Nat.reduceSub, Nat.reduceLeDiff, Nat.reduceLT, Nat.reduceEqDiff, Nat.lt_irrefl, decide_true, decide_false, isa1, isa2, isa3, isa4, isa5, isa6, isa7, isa8, atI_0, atI_1, atI_2, atI_3, Option.getD_some, ownL, scrAt, e1]
      rw [take_get hx, rsum_app]
      have : rsum [x] = x := by show x + (0 : Rat) = x; grind
      rw [this])
    ⟨.un, rfl⟩
  rw [List.take_length] at e
  unfold F_total runF B_total
  rw [← fr0]
  simp only [sSeq, sIf, sNil, sAsg, sRet, sDrop, cV, cAnd, cOr, cNot, cTrue, eOp2, eOp1, eVar, eC, eApp, aCons, aNil, eIf, eAnd, eOr, eNot, eChain, eNeg, asB, dLt, dLe, dGt, dGe, dSub, dIx, dAbs, dMin, dMax, dLen, dList, dTuple, mkTup, mkLst, gSet, QL.gTup, gTupF, unTup, sPar2, xDat, xOwn, xNil, noScr, sOwn, oLst, iSeq, asSeq, iApp, endOf, List.map_cons, List.map_nil, List.length_cons, List.length_nil, List.length_set, List.replicate, List.cons_append, List.nil_append, List.getElem?_cons_zero, List.getElem?_cons_succ, List.getElem?_nil, Option.bind_some, Option.bind_none, Option.map_some, Option.map_none, List.set_cons_zero, List.set_cons_succ, List.set_nil, Bool.false_eq_true, if_false, if_true, ne_eq, not_false_eq_true, not_true_eq_false, and_self, and_true, true_and, Bool.not_true, Bool.not_false, Bool.and_true, Bool.true_and, Nat.reduceAdd, Nat.reduceSub, Nat.reduceLeDiff, Nat.reduceLT, Nat.reduceEqDiff, Nat.lt_irrefl, decide_true, decide_false, isa1, isa2, isa3, isa4, isa5, isa6, isa7, isa8, atI_0, atI_1, atI_2, atI_3, Option.getD_some, ownL, scrAt, sFor]
  rw [e]
  simp only [sSeq, sIf, sNil, sAsg, sRet, sDrop, cV, cAnd, cOr, cNot, cTrue, eOp2, eOp1, eVar, eC, eApp, aCons, aNil, eIf, eAnd, eOr, eNot, eChain, eNeg, asB, dLt, dLe, dGt, dGe, dSub, dIx, dAbs, dMin, dMax, dLen, dList, dTuple, mkTup, mkLst, gSet, QL.gTup, gTupF, unTup, sPar2, xDat, xOwn, xNil, noScr, sOwn, oLst, iSeq, asSeq, iApp, endOf, List.map_cons, List.map_nil, List.length_cons, List.length_nil, List.length_set, List.replicate, List.cons_append, List.nil_append, List.getElem?_cons_zero, List.getElem?_cons_succ, List.getElem?_nil, Option.bind_some, Option.bind_none, Option.map_some, Option.map_none, List.set_cons_zero, List.set_cons_succ, List.set_nil, Bool.false_eq_true, if_false, if_true, ne_eq, not_false_eq_true, not_true_eq_false, and_self, and_true, true_and, Bool.not_true, Bool.not_false, Bool.and_true, Bool.true_and, Nat.reduceAdd, Nat.reduceSub, Nat.reduceLeDiff, Nat.reduceLT, Nat.reduceEqDiff, Nat.lt_irrefl, decide_true, decide_false, isa1, isa2, isa3, isa4, isa5, isa6, isa7, isa8, atI_0, atI_1, atI_2, atI_3, Option.getD_some, ownL, scrAt]
/-- what hangs from a beam -/
def hangs : List Room → List Rat → Nat → Rat
  | r :: rs, w :: ws, b => (if b = r.1 then w else if b = r.2.1 then - w else 0) + hangs rs ws b
  | _, _, _ => 0
def wid (u : Nat → Rat) (r : Room) : Rat := r.2.2 * (u r.2.1 - u r.1)
def hei (u : Nat → Rat) (r : Room) : Rat := u r.2.1 - u r.1
theorem hangs_net (u : Nat → Rat) (b : Nat) {n : Nat} : ∀ {rs : List Room}, In n rs → hangs rs (rs.map (wid u)) b = - net rs u b
  | [], _ => by show (0 : Rat) = -0; grind
  | r :: rs, h => by
    have ih := hangs_net u b (rs := rs) fun z hz => h z (List.mem_cons_of_mem _ hz)
    obtain ⟨_, _, h3, _⟩ := h r List.mem_cons_self
    show (if b = r.1 then wid u r else if b = r.2.1 then - wid u r else 0) + hangs rs (rs.map (wid u)) b = -((if b = r.1 then r.2.2 * (u r.1 - u r.2.1) else 0) + (if b = r.2.1 then r.2.2 * (u r.2.1 - u r.1) else 0) + net rs u b)
    rw [ih]
    unfold wid
    by_cases q1 : b = r.1
    · rw [if_pos q1, if_pos q1, if_neg (by omega)]; grind
    · rw [if_neg q1, if_neg q1]
      by_cases q2 : b = r.2.1
      · rw [if_pos q2, if_pos q2]; grind
      · rw [if_neg q2, if_neg q2]; grind
/-- the parts that hang -/
def prts : List (Room × Rat) → Nat → List Rat
  | [], _ => []
  | p :: ps, b => (if b = p.1.1 then [p.2] else if b = p.1.2.1 then [- p.2] else []) ++ prts ps b
theorem prts_app (b : Nat) : ∀ l m : List (Room × Rat), prts (l ++ m) b = prts l b ++ prts m b
  | [], m => rfl
  | p :: l, m => by
    show _ ++ prts (l ++ m) b = (_ ++ prts l b) ++ prts m b
    rw [prts_app b l m, List.append_assoc]
theorem prts_sum (b : Nat) : ∀ (rs : List Room) (ws : List Rat), rsum (prts (rs.zip ws) b) = hangs rs ws b
  | [], ws => by cases ws <;> rfl
  | r :: rs, [] => rfl
  | r :: rs, w :: ws => by
    show rsum ((if b = r.1 then [w] else if b = r.2.1 then [- w] else []) ++ prts (rs.zip ws) b) = (if b = r.1 then w else if b = r.2.1 then - w else 0) + hangs rs ws b
    rw [rsum_app, prts_sum b rs ws]
    congr 1
    split
    · show w + 0 = w; grind
    · split
      · show - w + 0 = - w; grind
      · rfl
theorem prts_mem {W : Nat} {b : Nat} : ∀ {l : List (Room × Rat)}, (∀ p ∈ l, Sz W p.2) → (∀ x ∈ prts l b, Sz W x) ∧ (prts l b).length ≤ l.length
  | [], _ => ⟨(fun x hx => nomatch hx), Nat.le_refl _⟩
  | p :: l, h => by
    obtain ⟨h1, h2⟩ := prts_mem (b := b) (l := l) fun z hz => h z (List.mem_cons_of_mem _ hz)
    have hp := h p List.mem_cons_self
    refine ⟨fun x hx => ?_, ?_⟩
    · rcases List.mem_append.mp (show x ∈ (if b = p.1.1 then [p.2] else if b = p.1.2.1 then [- p.2] else []) ++ prts l b from hx) with q | q
      · split at q
        · rw [List.mem_singleton] at q; rw [q]; exact hp
        · split at q
          · rw [List.mem_singleton] at q; rw [q]; exact hp.neg
          · cases q
      · exact h1 x q
    · show ((if b = p.1.1 then [p.2] else if b = p.1.2.1 then [- p.2] else []) ++ prts l b).length ≤ _
      rw [List.length_append, List.length_cons]
      split
      · simp; omega
      · split
        · simp; omega
        · simp; omega
def hangBody : MS := (sIf (cV (eOp2 dEq (eVar 2) (eVar 5))) (sDrop (eAppend 3 (eVar 4))) (sIf (cV (eOp2 dEq (eVar 2) (eVar 6))) (sDrop (eAppend 3 (eApp F_less (aCons (eVar 4) aNil)))) sNil))
theorem F_less_eq (y : Rat) : F_less [fr y] = some (fr (-y)) := by
  unfold F_less runF B_less fr
  simp only [sSeq, sIf, sNil, sAsg, sRet, sDrop, cV, cAnd, cOr, cNot, cTrue, eOp2, eOp1, eVar, eC, eApp, aCons, aNil, eIf, eAnd, eOr, eNot, eChain, eNeg, asB, dLt, dLe, dGt, dGe, dSub, dIx, dAbs, dMin, dMax, dLen, dList, dTuple, mkTup, mkLst, gSet, QL.gTup, gTupF, unTup, sPar2, xDat, xOwn, xNil, noScr, sOwn, oLst, iSeq, asSeq, iApp, endOf, List.map_cons, List.map_nil, List.length_cons, List.length_nil, List.length_set, List.replicate, List.cons_append, List.nil_append, List.getElem?_cons_zero, List.getElem?_cons_succ, List.getElem?_nil, Option.bind_some, Option.bind_none, Option.map_some, Option.map_none, List.set_cons_zero, List.set_cons_succ, List.set_nil, Bool.false_eq_true, if_false, if_true, ne_eq, not_false_eq_true, not_true_eq_false, and_self, and_true, true_and, Bool.not_true, Bool.not_false, Bool.and_true, Bool.true_and, Nat.reduceAdd, Nat.reduceSub, Nat.reduceLeDiff, Nat.reduceLT, Nat.reduceEqDiff, Nat.lt_irrefl, decide_true, decide_false, isa1, isa2, isa3, isa4, isa5, isa6, isa7, isa8, atI_0, atI_1, atI_2, atI_3, Option.getD_some, ownL, scrAt]
  rw [Rat.neg_num, Rat.neg_den, show (0 : Int) - y.num = - y.num by omega]
theorem zipL_zip {α β : Type} (f : α → D) (g : β → D) : ∀ (xs : List α) (ys : List β), zipL (xs.map f) (ys.map g) = (xs.zip ys).map fun p => .tuple [f p.1, g p.2]
  | [], ys => by cases ys <;> rfl
  | x :: xs, [] => rfl
  | x :: xs, y :: ys => by
    have := zipL_zip f g xs ys
    unfold zipL at this ⊢
    simp only [List.map_cons, List.zip_cons_cons, this]
theorem F_hanging_eq {W b : Nat} {rs : List Room} {ws : List Rat} (hw : ∀ w ∈ ws, Sz W w) (hl : rs.length ≤ 15) (hs : 16 * (W + 1) + 1 ≤ 9000) : F_hanging [roomsD rs, .tuple (ws.map fr), .int b] = some (fr (hangs rs ws b)) := by
  have hz : ∀ p ∈ rs.zip ws, Sz W p.2 := fun p hp => hw _ (List.of_mem_zip hp).2
  have hlz : (rs.zip ws).length ≤ 15 := by rw [List.length_zip]; omega
  obtain ⟨m1, m2⟩ := prts_mem (b := b) hz
  obtain ⟨ρ', e, s4, s5, s6, s7, rfl⟩ := forM_inv (g := gTup [(gTup [(gSet 5), (gSet 6), (gSet 7)]), (gSet 4)]) (b := hangBody) (fun p : Room × Rat => .tuple [roomD p.1, fr p.2]) (rs.zip ws)
    (fun i ρ => ∃ s4 s5 s6 s7, ρ = [.dat (roomsD rs), .dat (.tuple (ws.map fr)), .dat (.int b), .own (.lst ((prts ((rs.zip ws).take i) b).map fr)), s4, s5, s6, s7])
    [.dat (roomsD rs), .dat (.tuple (ws.map fr)), .dat (.int b), .own (.lst []), .un, .un, .un, .un]
    (fun i p ρ hx hp => by
      obtain ⟨s4, s5, s6, s7, rfl⟩ := hp
      obtain ⟨n1, n2⟩ := prts_mem (b := b) (l := (rs.zip ws).take i) fun z hz' => hz z (List.mem_of_mem_take hz')
      have hlt : ((prts ((rs.zip ws).take i) b).map fr).length < 1000000 := by
        rw [List.length_map]
        rw [List.length_take] at n2
        omega
      have el := F_less_eq p.2
      refine ⟨_, _, rfl, ?_, .dat (fr p.2), .dat (.int p.1.1), .dat (.int p.1.2.1), .dat (fr p.1.2.2), rfl⟩
      rw [take_get hx, prts_app, List.map_append]
      show hangBody [.dat (roomsD rs), .dat (.tuple (ws.map fr)), .dat (.int b), .own (.lst ((prts ((rs.zip ws).take i) b).map fr)), .dat (fr p.2), .dat (.int p.1.1), .dat (.int p.1.2.1), .dat (fr p.1.2.2)] = some (.nx, [.dat (roomsD rs), .dat (.tuple (ws.map fr)), .dat (.int b), .own (.lst ((prts ((rs.zip ws).take i) b).map fr ++ ((if b = p.1.1 then [p.2] else if b = p.1.2.1 then [- p.2] else []) ++ prts [] b).map fr)), .dat (fr p.2), .dat (.int p.1.1), .dat (.int p.1.2.1), .dat (fr p.1.2.2)])
      unfold hangBody
      by_cases q1 : b = p.1.1
      · simp only [sSeq, sIf, sNil, sAsg, sRet, sDrop, cV, cAnd, cOr, cNot, cTrue, eOp2, eOp1, eVar, eC, eApp, aCons, aNil, eIf, eAnd, eOr, eNot, eChain, eNeg, asB, dLt, dLe, dGt, dGe, dSub, dIx, dAbs, dMin, dMax, dLen, dList, dTuple, mkTup, mkLst, gSet, QL.gTup, gTupF, unTup, sPar2, xDat, xOwn, xNil, noScr, sOwn, oLst, iSeq, asSeq, iApp, endOf, List.map_cons, List.map_nil, List.length_cons, List.length_nil, List.length_set, List.replicate, List.cons_append, List.nil_append, List.getElem?_cons_zero, List.getElem?_cons_succ, List.getElem?_nil, Option.bind_some, Option.bind_none, Option.map_some, Option.map_none, List.set_cons_zero, List.set_cons_succ, List.set_nil, Bool.false_eq_true, if_false, if_true, ne_eq, not_false_eq_true, not_true_eq_false, and_self, and_true, true_and, Bool.not_true, Bool.not_false, Bool.and_true, Bool.true_and, Nat.reduceAdd, Nat.reduceSub, Nat.reduceLeDiff, Nat.reduceLT, Nat.reduceEqDiff, Nat.lt_irrefl, decide_true, decide_false, isa1, isa2, isa3, isa4, isa5, isa6, isa7, isa8, atI_0, atI_1, atI_2, atI_3, Option.getD_some, ownL, scrAt, dEq_nat, decide_eq_true q1, eAppend, if_pos hlt, if_pos q1, prts, List.append_nil]
      · by_cases q2 : b = p.1.2.1
        · simp only [sSeq, sIf, sNil, sAsg, sRet, sDrop, cV, cAnd, cOr, cNot, cTrue, eOp2, eOp1, eVar, eC, eApp, aCons, aNil, eIf, eAnd, eOr, eNot, eChain, eNeg, asB, dLt, dLe, dGt, dGe, dSub, dIx, dAbs, dMin, dMax, dLen, dList, dTuple, mkTup, mkLst, gSet, QL.gTup, gTupF, unTup, sPar2, xDat, xOwn, xNil, noScr, sOwn, oLst, iSeq, asSeq, iApp, endOf, List.map_cons, List.map_nil, List.length_cons, List.length_nil, List.length_set, List.replicate, List.cons_append, List.nil_append, List.getElem?_cons_zero, List.getElem?_cons_succ, List.getElem?_nil, Option.bind_some, Option.bind_none, Option.map_some, Option.map_none, List.set_cons_zero, List.set_cons_succ, List.set_nil, Bool.false_eq_true, if_false, if_true, ne_eq, not_false_eq_true, not_true_eq_false, and_self, and_true, true_and, Bool.not_true, Bool.not_false, Bool.and_true, Bool.true_and, Nat.reduceAdd, Nat.reduceSub, Nat.reduceLeDiff, Nat.reduceLT, Nat.reduceEqDiff, Nat.lt_irrefl, decide_true, decide_false, isa1, isa2, isa3, isa4, isa5, isa6, isa7, isa8, atI_0, atI_1, atI_2, atI_3, Option.getD_some, ownL, scrAt, dEq_nat, decide_eq_false q1, decide_eq_true q2, eAppend, if_pos hlt, el, if_neg q1, if_pos q2, prts, List.append_nil]
        · simp only [sSeq, sIf, sNil, sAsg, sRet, sDrop, cV, cAnd, cOr, cNot, cTrue, eOp2, eOp1, eVar, eC, eApp, aCons, aNil, eIf, eAnd, eOr, eNot, eChain, eNeg, asB, dLt, dLe, dGt, dGe, dSub, dIx, dAbs, dMin, dMax, dLen, dList, dTuple, mkTup, mkLst, gSet, QL.gTup, gTupF, unTup, sPar2, xDat, xOwn, xNil, noScr, sOwn, oLst, iSeq, asSeq, iApp, endOf, List.map_cons, List.map_nil, List.length_cons, List.length_nil, List.length_set, List.replicate, List.cons_append, List.nil_append, List.getElem?_cons_zero, List.getElem?_cons_succ, List.getElem?_nil, Option.bind_some, Option.bind_none, Option.map_some, Option.map_none, List.set_cons_zero, List.set_cons_succ, List.set_nil, Bool.false_eq_true, if_false, if_true, ne_eq, not_false_eq_true, not_true_eq_false, and_self, and_true, true_and, Bool.not_true, Bool.not_false, Bool.and_true, Bool.true_and, Nat.reduceAdd, Nat.reduceSub, Nat.reduceLeDiff, Nat.reduceLT, Nat.reduceEqDiff, Nat.lt_irrefl, decide_true, decide_false, isa1, isa2, isa3, isa4, isa5, isa6, isa7, isa8, atI_0, atI_1, atI_2, atI_3, Option.getD_some, ownL, scrAt, dEq_nat, decide_eq_false q1, decide_eq_false q2, if_neg q1, if_neg q2, prts, List.append_nil])
    ⟨.un, .un, .un, .un, rfl⟩
  rw [List.take_length] at e
  have et := F_total_eq (W := W) m1 (by
    have : (prts (rs.zip ws) b).length ≤ 15 := by omega
    have := Nat.mul_le_mul_right (W + 1) (show (prts (rs.zip ws) b).length + 1 ≤ 16 by omega)
    omega)
  rw [prts_sum] at et
  unfold hangBody at e
  unfold F_hanging runF B_hanging
  simp only [sSeq, sIf, sNil, sAsg, sRet, sDrop, cV, cAnd, cOr, cNot, cTrue, eOp2, eOp1, eVar, eC, eApp, aCons, aNil, eIf, eAnd, eOr, eNot, eChain, eNeg, asB, dLt, dLe, dGt, dGe, dSub, dIx, dAbs, dMin, dMax, dLen, dList, dTuple, mkTup, mkLst, gSet, QL.gTup, gTupF, unTup, sPar2, xDat, xOwn, xNil, noScr, sOwn, oLst, iSeq, asSeq, iApp, endOf, List.map_cons, List.map_nil, List.length_cons, List.length_nil, List.length_set, List.replicate, List.cons_append, List.nil_append, List.getElem?_cons_zero, List.getElem?_cons_succ, List.getElem?_nil, Option.bind_some, Option.bind_none, Option.map_some, Option.map_none, List.set_cons_zero, List.set_cons_succ, List.set_nil, Bool.false_eq_true, if_false, if_true, ne_eq, not_false_eq_true, not_true_eq_false, and_self, and_true, true_and, Bool.not_true, Bool.not_false, Bool.and_true, Bool.true_and, Nat.reduceAdd, Nat.reduceSub, Nat.reduceLeDiff, Nat.reduceLT, Nat.reduceEqDiff, Nat.lt_irrefl, decide_true, decide_false, isa1, isa2, isa3, isa4, isa5, isa6, isa7, isa8, atI_0, atI_1, atI_2, atI_3, Option.getD_some, ownL, scrAt, sFor, roomsD, zipD, zipL_zip]
  simp only [roomsD] at e
  rw [e]
  simp only [sSeq, sIf, sNil, sAsg, sRet, sDrop, cV, cAnd, cOr, cNot, cTrue, eOp2, eOp1, eVar, eC, eApp, aCons, aNil, eIf, eAnd, eOr, eNot, eChain, eNeg, asB, dLt, dLe, dGt, dGe, dSub, dIx, dAbs, dMin, dMax, dLen, dList, dTuple, mkTup, mkLst, gSet, QL.gTup, gTupF, unTup, sPar2, xDat, xOwn, xNil, noScr, sOwn, oLst, iSeq, asSeq, iApp, endOf, List.map_cons, List.map_nil, List.length_cons, List.length_nil, List.length_set, List.replicate, List.cons_append, List.nil_append, List.getElem?_cons_zero, List.getElem?_cons_succ, List.getElem?_nil, Option.bind_some, Option.bind_none, Option.map_some, Option.map_none, List.set_cons_zero, List.set_cons_succ, List.set_nil, Bool.false_eq_true, if_false, if_true, ne_eq, not_false_eq_true, not_true_eq_false, and_self, and_true, true_and, Bool.not_true, Bool.not_false, Bool.and_true, Bool.true_and, Nat.reduceAdd, Nat.reduceSub, Nat.reduceLeDiff, Nat.reduceLT, Nat.reduceEqDiff, Nat.lt_irrefl, decide_true, decide_false, isa1, isa2, isa3, isa4, isa5, isa6, isa7, isa8, atI_0, atI_1, atI_2, atI_3, Option.getD_some, ownL, scrAt, et]

end QP
set_option Elab.async false
set_option linter.all false
set_option maxRecDepth 100000
set_option maxHeartbeats 1000000
namespace QP
open PySem PySem.Spec PyProof.Rows L2 QL
/-! ### widths, heights, the hall -/
theorem atI_rowT {n j : Nat} (f : Nat → Rat) (h : j < n) : dIx (.tuple (rowL n f)) (.int j) = some (fr (f j)) := atI_row f h
theorem F_widths_by_eq {n s U : Nat} {rs : List Room} {u : Nat → Rat} (hi : In n rs) (hl : rs.length ≤ 1000) (hp : ∀ r ∈ rs, Sz s r.2.2) (hu : ∀ b, b < n → Sz U (u b)) (hs : s + (U + U + 1) ≤ 9000) :
    F_widths_by [roomsD rs, .tuple (rowL n u)] = some (.tuple ((rs.map (wid u)).map fr)) := by
  have key := eLcT (vs := [2, 3, 4]) (ρ := [.dat (roomsD rs), .dat (.tuple (rowL n u)), .un, .un, .un]) (it := iSeq (eVar 0)) (tg := gTup [(gSet 2), (gSet 3), (gSet 4)]) (m := eApp F_times (aCons (eVar 4) (aCons (eApp F_minus (aCons (eOp2 dIx (eVar 1) (eVar 3)) (aCons (eOp2 dIx (eVar 1) (eVar 2)) aNil))) aNil)))
    roomD (fun r => fr (wid u r)) (fun r => [.dat (roomsD rs), .dat (.tuple (rowL n u)), .dat (.int r.1), .dat (.int r.2.1), .dat (fr r.2.2)]) rs rfl (by omega)
    (fun r hr => by
      obtain ⟨a1, a2, a3, a4⟩ := hi r hr
      have e1 := F_minus_eq (hu _ a2) (hu _ a1) (by omega)
      have e2 := F_times_eq (hp r hr) ((hu _ a2).sub (hu _ a1)) (by omega)
      refine ⟨rfl, ?_, rfl⟩
      simp only [eApp, aCons, aNil, eVar, eOp2, List.getElem?_cons_zero, List.getElem?_cons_succ, Option.bind_some, Option.map_some, atI_rowT u a1, atI_rowT u a2, e1, e2]
      rfl)
    rfl
  unfold F_widths_by runF B_widths_by
  simp only [sSeq, sIf, sNil, sAsg, sRet, sDrop, cV, cAnd, cOr, cNot, cTrue, eOp2, eOp1, eVar, eC, eApp, aCons, aNil, eIf, eAnd, eOr, eNot, eChain, eNeg, asB, dLt, dLe, dGt, dGe, dSub, dIx, dAbs, dMin, dMax, dLen, dList, dTuple, mkTup, mkLst, gSet, QL.gTup, gTupF, unTup, sPar2, xDat, xOwn, xNil, noScr, sOwn, oLst, iSeq, asSeq, iApp, endOf, List.map_cons, List.map_nil, List.length_cons, List.length_nil, List.length_set, List.replicate, List.cons_append, List.nil_append, List.getElem?_cons_zero, List.getElem?_cons_succ, List.getElem?_nil, Option.bind_some, Option.bind_none, Option.map_some, Option.map_none, List.set_cons_zero, List.set_cons_succ, List.set_nil, Bool.false_eq_true, if_false, if_true, ne_eq, not_false_eq_true, not_true_eq_false, and_self, and_true, true_and, Bool.not_true, Bool.not_false, Bool.and_true, Bool.true_and, Nat.reduceAdd, Nat.reduceSub, Nat.reduceLeDiff, Nat.reduceLT, Nat.reduceEqDiff, Nat.lt_irrefl, decide_true, decide_false, isa1, isa2, isa3, isa4, isa5, isa6, isa7, isa8, atI_0, atI_1, atI_2, atI_3, Option.getD_some, ownL, scrAt, key]
  rw [List.map_map]; rfl
theorem wid_sz {n s U : Nat} {rs : List Room} {u : Nat → Rat} (hi : In n rs) (hp : ∀ r ∈ rs, Sz s r.2.2) (hu : ∀ b, b < n → Sz U (u b)) : ∀ w ∈ rs.map (wid u), Sz (s + (U + U + 1)) w := fun w hw => by
  obtain ⟨r, hr, rfl⟩ := List.mem_map.mp hw
  obtain ⟨a1, a2, _, _⟩ := hi r hr
  exact (hp r hr).mul ((hu _ a2).sub (hu _ a1))
theorem Sml.psz {n s B : Nat} {d : Int} {rs : List Room} (h : Sml n s B d rs) : ∀ r ∈ rs, Sz s r.2.2 := fun r hr => (h.cd r hr).sz h.nz h.dl (by have := h.big; omega)
/-- the levels and the hall of a plan; M: the bound of the size of levels -/
theorem plan_all {n s B : Nat} (M : Nat) {d : Int} {rs : List Room} (h : Sml n s B d rs) (hM : n ≤ M + 2) (hs : 16 * (s + (2 * grw s M + 3) + 1) + 1 ≤ 9000) :
    ∃ u, F_levels_of [planD n rs] = some (.tuple (rowL n u)) ∧ Lvl n rs u ∧ (∀ b, b < n → Sz (grw s M + 1) (u b)) ∧ F_hall_of [planD n rs] = some (fr (- net rs u 0)) ∧ Sz 9000 (- net rs u 0) ∧ CdU n (grw s M) u := by
  obtain ⟨u, e, hu, hcd⟩ := F_levels_of_eq h hM (by omega)
  have hz := hcd.sz
  have hl := h.plan.few
  have hzh : Sz 9000 (- net rs u 0) := by
    rw [← hangs_net u 0 h.plan.inn, ← prts_sum]
    obtain ⟨m1, m2⟩ := prts_mem (b := 0) (l := rs.zip (rs.map (wid u))) (W := s + (grw s M + 1 + (grw s M + 1) + 1)) fun p hp => wid_sz h.plan.inn h.psz hz _ (List.of_mem_zip hp).2
    refine (rsum_sz _ m1).mono ?_
    rw [List.length_zip] at m2
    have := Nat.mul_le_mul_right (s + (grw s M + 1 + (grw s M + 1) + 1) + 1) (show (prts (rs.zip (rs.map (wid u))) 0).length ≤ 15 by omega)
    omega
  refine ⟨u, e, hu, hz, ?_, hzh, hcd⟩
  have e1 := F_widths_by_eq h.plan.inn (by omega) h.psz hz (by omega)
  have e2 := F_hanging_eq (b := 0) (wid_sz h.plan.inn h.psz hz) hl (by omega)
  rw [hangs_net u 0 h.plan.inn] at e2
  have e2' : F_hanging [roomsD rs, .tuple ((rs.map (wid u)).map fr), .int 0] = some (fr (- net rs u 0)) := e2
  unfold F_hall_of runF B_hall_of
  unfold planD at e ⊢
  simp only [sSeq, sIf, sNil, sAsg, sRet, sDrop, cV, cAnd, cOr, cNot, cTrue, eOp2, eOp1, eVar, eC, eApp, aCons, aNil, eIf, eAnd, eOr, eNot, eChain, eNeg, asB, dLt, dLe, dGt, dGe, dSub, dIx, dAbs, dMin, dMax, dLen, dList, dTuple, mkTup, mkLst, gSet, QL.gTup, gTupF, unTup, sPar2, xDat, xOwn, xNil, noScr, sOwn, oLst, iSeq, asSeq, iApp, endOf, List.map_cons, List.map_nil, List.length_cons, List.length_nil, List.length_set, List.replicate, List.cons_append, List.nil_append, List.getElem?_cons_zero, List.getElem?_cons_succ, List.getElem?_nil, Option.bind_some, Option.bind_none, Option.map_some, Option.map_none, List.set_cons_zero, List.set_cons_succ, List.set_nil, Bool.false_eq_true, if_false, if_true, ne_eq, not_false_eq_true, not_true_eq_false, and_self, and_true, true_and, Bool.not_true, Bool.not_false, Bool.and_true, Bool.true_and, Nat.reduceAdd, Nat.reduceSub, Nat.reduceLeDiff, Nat.reduceLT, Nat.reduceEqDiff, Nat.lt_irrefl, decide_true, decide_false, isa1, isa2, isa3, isa4, isa5, isa6, isa7, isa8, atI_0, atI_1, atI_2, atI_3, Option.getD_some, ownL, scrAt, e, e1, e2']
theorem F_hall_eq' {n : Nat} {rs : List Room} {x : D} (h : Plan n rs) (e : F_hall_of [planD n rs] = some x) : F_hall [planD n rs] = some x := by
  have e1 := F_need_plan_eq h
  unfold F_hall runF B_hall
  simp only [sSeq, sIf, sNil, sAsg, sRet, sDrop, cV, cAnd, cOr, cNot, cTrue, eOp2, eOp1, eVar, eC, eApp, aCons, aNil, eIf, eAnd, eOr, eNot, eChain, eNeg, asB, dLt, dLe, dGt, dGe, dSub, dIx, dAbs, dMin, dMax, dLen, dList, dTuple, mkTup, mkLst, gSet, QL.gTup, gTupF, unTup, sPar2, xDat, xOwn, xNil, noScr, sOwn, oLst, iSeq, asSeq, iApp, endOf, List.map_cons, List.map_nil, List.length_cons, List.length_nil, List.length_set, List.replicate, List.cons_append, List.nil_append, List.getElem?_cons_zero, List.getElem?_cons_succ, List.getElem?_nil, Option.bind_some, Option.bind_none, Option.map_some, Option.map_none, List.set_cons_zero, List.set_cons_succ, List.set_nil, Bool.false_eq_true, if_false, if_true, ne_eq, not_false_eq_true, not_true_eq_false, and_self, and_true, true_and, Bool.not_true, Bool.not_false, Bool.and_true, Bool.true_and, Nat.reduceAdd, Nat.reduceSub, Nat.reduceLeDiff, Nat.reduceLT, Nat.reduceEqDiff, Nat.lt_irrefl, decide_true, decide_false, isa1, isa2, isa3, isa4, isa5, isa6, isa7, isa8, atI_0, atI_1, atI_2, atI_3, Option.getD_some, ownL, scrAt, e1, e]
/-! ### what the laws reckon -/

end QP
set_option Elab.async false
set_option linter.all false
set_option maxRecDepth 100000
set_option maxHeartbeats 1000000
namespace QP
open PySem PySem.Spec PyProof.Rows L2 QL
theorem lt_num (x y : Rat) : (x.num * y.den < y.num * x.den) ↔ x < y := by
  rw [Rat.lt_iff]
theorem F__law_less_eq {n m : Nat} {x y : Rat} (hx : Sz n x) (hy : Sz m y) (h : n + m ≤ 100000) : F__law_less [fr x, fr y] = some (.bool (decide (x < y))) := by
  have i1 : IntMulOk x.num y.den := intMul_ok (a := n) (b := m) hx.1 (by rw [den_cast]; exact hy.2) (by omega)
  have i2 : IntMulOk y.num x.den := intMul_ok (a := m) (b := n) hy.1 (by rw [den_cast]; exact hx.2) (by omega)
  have e : decide (x.num * (y.den : Int) < y.num * (x.den : Int)) = decide (x < y) := by
    by_cases q : x < y
    · rw [decide_eq_true q, decide_eq_true ((lt_num x y).mpr q)]
    · rw [decide_eq_false q, decide_eq_false fun z => q ((lt_num x y).mp z)]
  unfold F__law_less runF B__law_less fr
  simp only [sSeq, sIf, sNil, sAsg, sRet, sDrop, cV, cAnd, cOr, cNot, cTrue, eOp2, eOp1, eVar, eC, eApp, aCons, aNil, eIf, eAnd, eOr, eNot, eChain, eNeg, asB, dLt, dLe, dGt, dGe, dSub, dIx, dAbs, dMin, dMax, dLen, dList, dTuple, mkTup, mkLst, gSet, QL.gTup, gTupF, unTup, sPar2, xDat, xOwn, xNil, noScr, sOwn, oLst, iSeq, asSeq, iApp, endOf, List.map_cons, List.map_nil, List.length_cons, List.length_nil, List.length_set, List.replicate, List.cons_append, List.nil_append, List.getElem?_cons_zero, List.getElem?_cons_succ, List.getElem?_nil, Option.bind_some, Option.bind_none, Option.map_some, Option.map_none, List.set_cons_zero, List.set_cons_succ, List.set_nil, Bool.false_eq_true, if_false, if_true, ne_eq, not_false_eq_true, not_true_eq_false, and_self, and_true, true_and, Bool.not_true, Bool.not_false, Bool.and_true, Bool.true_and, Nat.reduceAdd, Nat.reduceSub, Nat.reduceLeDiff, Nat.reduceLT, Nat.reduceEqDiff, Nat.lt_irrefl, decide_true, decide_false, isa1, isa2, isa3, isa4, isa5, isa6, isa7, isa8, atI_0, atI_1, atI_2, atI_3, Option.getD_some, ownL, scrAt, dMul, if_pos i1, if_pos i2, e]

end QP
set_option Elab.async false
set_option linter.all false
set_option maxRecDepth 100000
set_option maxHeartbeats 1000000
namespace QP
open PySem PySem.Spec PyProof.Rows L2 QL
/-! ### rows compared -/
theorem canLay_row (n : Nat) (f : Nat → Rat) : PyData.canLayAll0 (rowL n f) = true := by
  unfold rowL
  induction (List.range n) with
  | nil => rfl
  | cons a l ih => show (true && PyData.canLayAll0 _) = true; rw [ih]; rfl
theorem depth_row (n : Nat) (f : Nat → Rat) : PyData.depthAll (rowL n f) ≤ 1 := by
  unfold rowL
  induction (List.range n) with
  | nil => exact Nat.zero_le _
  | cons a l ih => show max (PyData.depth (fr (f a))) (PyData.depthAll _) ≤ 1; exact Nat.max_le.mpr ⟨Nat.le_refl _, ih⟩
theorem shaped_rowT (n : Nat) (f : Nat → Rat) : SeqAt.shaped (.tuple (rowL n f)) = true := by
  unfold SeqAt.shaped
  rw [Bool.and_eq_true]
  refine ⟨canLay_row n f, decide_eq_true ?_⟩
  have := depth_row n f
  show PyData.depthAll (rowL n f) + 1 ≤ 64
  omega
theorem eqvAll_frs : ∀ xs ys : List Rat, PyData.eqvAll (xs.map fr) (ys.map fr) = decide (xs = ys)
  | [], [] => rfl
  | [], y :: ys => rfl
  | x :: xs, [] => rfl
  | x :: xs, y :: ys => by
    show (PyData.eqv (fr x) (fr y) && PyData.eqvAll (xs.map fr) (ys.map fr)) = _
    rw [eqv_fr, eqvAll_frs xs ys]
    by_cases h1 : x = y
    · by_cases h2 : xs = ys
      · simp [h1, h2]
      · simp [h1, h2]
    · simp [h1]
theorem eqv_rowT (n : Nat) (f : Nat → Rat) : PyData.eqv (.tuple (rowL n f)) (.tuple (rowL n f)) = true := by
  show PyData.eqvAll (rowL n f) (rowL n f) = true
  have := eqvAll_frs ((List.range n).map f) ((List.range n).map f)
  rw [List.map_map] at this
  have e : rowL n f = (List.range n).map (fr ∘ f) := rfl
  rw [e, this]
  simp
theorem dEq_rowT {n : Nat} {f g : Nat → Rat} (h : ∀ j, j < n → f j = g j) : dEq (.tuple (rowL n f)) (.tuple (rowL n g)) = some (.bool true) := by
  rw [rowL_congr h]
  exact dEq_refl (shaped_rowT n g) (eqv_rowT n g)

end QP
set_option Elab.async false
set_option linter.all false
set_option maxRecDepth 100000
set_option maxHeartbeats 1000000
namespace QP
open PySem PySem.Spec PyProof.Rows L2 QL
theorem Cd.scale {d : Int} {B : Nat} {x : Rat} (f : Nat) (hf : f ≠ 0) (h : Cd d B x) : Cd (d * f) (B * f) x := by
  obtain ⟨v, rfl, hv⟩ := h
  refine ⟨v * f, ?_, ?_⟩
  · have hf' : ((f : Int) : Rat) ≠ 0 := int_ne (by omega)
    rw [Rat.intCast_mul, Rat.intCast_mul]
    by_cases q : (d : Rat) = 0
    · rw [q]; grind
    · grind
  · rw [Int.natAbs_mul, Int.natAbs_natCast]
    exact Nat.mul_le_mul_right _ hv
theorem Cd.drawn {x : Rat} {a b : Nat} (ha : a ≤ 30) (hb : 1 ≤ b) (hb4 : b ≤ 4) (h : x = ((a : Int) : Rat) / ((b : Int) : Rat)) : Cd 12 360 x := by
  have hb' : b = 1 ∨ b = 2 ∨ b = 3 ∨ b = 4 := by omega
  rcases hb' with rfl | rfl | rfl | rfl
  · exact ⟨a * 12, by rw [h, Rat.intCast_mul]; simp; grind, by omega⟩
  · exact ⟨a * 6, by rw [h, Rat.intCast_mul]; simp; grind, by omega⟩
  · exact ⟨a * 4, by rw [h, Rat.intCast_mul]; simp; grind, by omega⟩
  · exact ⟨a * 3, by rw [h, Rat.intCast_mul]; simp; grind, by omega⟩
theorem Cd.own (e : Rat) : Cd (12 * (e.den : Int)) (12 * e.num.natAbs) e := by
  refine ⟨12 * e.num, ?_, by rw [Int.natAbs_mul]; exact Nat.le_refl _⟩
  have hd : (e.den : Rat) ≠ 0 := by have := e.den_nz; exact_mod_cast this
  have ex := num_over_den e
  rw [Rat.intCast_mul, Rat.intCast_mul, Rat.intCast_natCast]
  conv => lhs; rw [ex]
  simp
  grind
theorem Cd.sz9 {x : Rat} (h : Cd 12 360 x) : Sz 9 x := h.sz (by decide) (by decide) (by decide)
theorem abs_sz {n : Nat} {x : Rat} (h : Sz n x) : fr (if x < 0 then -x else x) = .tuple [.int (x.num.natAbs : Int), .int x.den] := by
  unfold fr
  by_cases q : x < 0
  · rw [if_pos q, Rat.neg_num, Rat.neg_den]
    have : x.num < 0 := by
      have : ¬ 0 ≤ x.num := fun z => by
        have := Rat.num_nonneg.mp z
        grind
      omega
    congr 3
    omega
  · rw [if_neg q]
    have : 0 ≤ x.num := Rat.num_nonneg.mpr (by grind)
    congr 3
    omega
theorem dNe_bool (x y : Bool) : dNe (.bool x) (.bool y) = some (.bool (x != y)) := by cases x <;> cases y <;> rfl
theorem mul_cancel0 {d x : Rat} (hd : 0 < d) (h : d * x = 0) : x = 0 := by
  rcases Rat.mul_eq_zero.mp h with q | q
  · rw [q] at hd; exact absurd hd (by decide)
  · exact q
theorem mul_nonneg_cancel {d x : Rat} (hd : 0 < d) (h : 0 ≤ d * x) : 0 ≤ x := by
  rcases Rat.le_total (a := 0) (b := x) with q | q
  · exact q
  · have h1 : 0 ≤ d * (-x) := Rat.mul_nonneg (Rat.le_of_lt hd) (by grind)
    have h2 : d * x = 0 := by grind
    rw [mul_cancel0 hd h2]
    decide
theorem dAdd_tup {a b : List D} (h1 : a ≠ []) (h2 : b ≠ []) (h3 : a.length + b.length ≤ 1000000) : dAdd (.tuple a) (.tuple b) = some (.tuple (a ++ b)) := if_pos ⟨h1, h2, h3⟩
theorem dMul_int {a b : Int} (h : IntMulOk a b) : dMul (.int a) (.int b) = some (.int (a * b)) := if_pos h
theorem dAdd_lst {a b : List D} (h3 : a.length + b.length ≤ 1000000) : dAdd (.list a) (.list b) = some (.list (a ++ b)) := if_pos h3

end QP
set_option Elab.async false
set_option linter.all false
set_option maxRecDepth 100000
set_option maxHeartbeats 1000000
namespace QP
open PySem PySem.Spec PyProof.Rows L2 QL
/-! ### an order by draws -/
theorem nats_erase : ∀ (l : List Nat) (i : Nat), (natsL l).eraseIdx i = natsL (l.eraseIdx i)
  | [], i => rfl
  | a :: l, 0 => rfl
  | a :: l, i + 1 => by
    show PyData.int a :: (natsL l).eraseIdx i = PyData.int a :: natsL (l.eraseIdx i)
    rw [nats_erase l i]
theorem perm_erase : ∀ (l : List Nat) (i : Nat) (h : i < l.length), (l[i] :: l.eraseIdx i).Perm l
  | [], i, h => absurd h (Nat.not_lt_zero _)
  | a :: l, 0, h => .refl _
  | a :: l, i + 1, h => by
    have hi : i < l.length := by simpa using h
    have ih := perm_erase l i hi
    show (l[i] :: a :: l.eraseIdx i).Perm (a :: l)
    exact (List.Perm.swap a l[i] _).trans (ih.cons a)
theorem nats_len (l : List Nat) : (natsL l).length = l.length := by simp [natsL]
theorem nats_get (l : List Nat) (i : Nat) (h : i < l.length) : (natsL l)[i]? = some (.int (l[i] : Nat)) := by
  simp [natsL, h]
theorem popAt_nat {i j : Nat} {a : M D} {ρ ρ' : Ro} {ds0 ds : List D} {d : D} (ha : a ρ = some (.int (j : Nat), ρ')) (h0 : ownL ρ i = some ds0) (h1 : ownL ρ' i = some ds) (hd : ds[j]? = some d) (hj : j < 1000) : ePopAt i a ρ = some (d, ρ'.set i (.own (.lst (ds.eraseIdx j)))) := by
  unfold ePopAt
  rw [h0, Option.bind_some, ha, Option.bind_some, h1, Option.bind_some]
  have hc : (0 : Int) ≤ ((j : Nat) : Int) ∧ ((j : Nat) : Int) < 2 ^ 63 := ⟨Int.natCast_nonneg j, Int.lt_trans (Int.ofNat_lt.mpr hj) (by decide)⟩
  show ite ((0 : Int) ≤ ((j : Nat) : Int) ∧ ((j : Nat) : Int) < 2 ^ 63) _ _ = _
  rw [if_pos hc, Int.toNat_natCast, hd]
  rfl
def ordBody : MS := (sDrop (eAppend 4 (ePopAt 3 (eAppO F__law_draw (yVar 0 (yVar 1 (yDat (eLenO 3) yNil)))))))
theorem ord_body (ns : List Int) (s2 : Sl) (left made : List Nat) (ts : List D) (i : Nat) (hi : i < left.length) (hl : left.length ≤ 100) (hml : made.length ≤ 100)
    (hr : F__law_draw [.scr ns, .own (.lst ts), .dat (.int (left.length : Nat))] = some (.int (i : Nat), [.scr ns, .own (.lst (ts ++ [.int 0])), .dat (.int (left.length : Nat))])) :
    ordBody [.scr ns, .own (.lst ts), s2, .own (.lst (natsL left)), .own (.lst (natsL made))] = some (.nx, [.scr ns, .own (.lst (ts ++ [.int 0])), s2, .own (.lst (natsL (left.eraseIdx i))), .own (.lst (natsL (made ++ [left[i]])))]) := by
  have hg := nats_get left i hi
  have hln := nats_len left
  have hml' : (natsL made).length < 1000000 := by rw [nats_len]; omega
  have hp : ePopAt 3 (eAppO F__law_draw (yVar 0 (yVar 1 (yDat (eLenO 3) yNil)))) [.scr ns, .own (.lst ts), s2, .own (.lst (natsL left)), .own (.lst (natsL made))] = some (.int (left[i] : Nat), [.scr ns, .own (.lst (ts ++ [.int 0])), s2, .own (.lst (natsL (left.eraseIdx i))), .own (.lst (natsL made))]) := by
    have ha : eAppO F__law_draw (yVar 0 (yVar 1 (yDat (eLenO 3) yNil))) [.scr ns, .own (.lst ts), s2, .own (.lst (natsL left)), .own (.lst (natsL made))] = some (.int (i : Nat), [.scr ns, .own (.lst (ts ++ [.int 0])), s2, .own (.lst (natsL left)), .own (.lst (natsL made))]) := by
      simp only [sSeq, sIf, sNil, sAsg, sRet, sDrop, cV, cAnd, cOr, cNot, cTrue, eOp2, eOp1, eVar, eC, eApp, aCons, aNil, eIf, eAnd, eOr, eNot, eChain, eNeg, asB, dLt, dLe, dGt, dGe, dSub, dAbs, dMin, dMax, dLen, dList, dTuple, mkTup, mkLst, gSet, QL.gTup, gTupF, unTup, sPar2, xDat, xOwn, xNil, noScr, sOwn, oLst, iSeq, asSeq, iApp, endOf, List.map_cons, List.map_nil, List.length_cons, List.length_nil, List.length_set, List.replicate, List.cons_append, List.nil_append, List.getElem?_cons_zero, List.getElem?_cons_succ, List.getElem?_nil, Option.bind_some, Option.bind_none, Option.map_some, Option.map_none, List.set_cons_zero, List.set_cons_succ, List.set_nil, Bool.false_eq_true, if_false, if_true, ne_eq, not_false_eq_true, not_true_eq_false, and_self, and_true, true_and, Bool.not_true, Bool.not_false, Bool.and_true, Bool.true_and, Nat.reduceAdd, Nat.reduceSub, Nat.reduceLeDiff, Nat.reduceLT, Nat.reduceEqDiff, Nat.lt_irrefl, decide_true, decide_false, isa1, isa2, isa3, isa4, isa5, isa6, isa7, isa8, Option.getD_some, ownL, scrAt, eLenO, hln, eAppO, yVar, yDat, yNil, isRef, ownIx, List.nodup_cons, List.not_mem_nil, List.nodup_nil, toSl, clr, put, hr]
    have := popAt_nat (ρ := [.scr ns, .own (.lst ts), s2, .own (.lst (natsL left)), .own (.lst (natsL made))]) (i := 3) ha rfl rfl hg (by omega)
    rw [nats_erase] at this
    exact this
  unfold ordBody
  have e : eAppend 4 (ePopAt 3 (eAppO F__law_draw (yVar 0 (yVar 1 (yDat (eLenO 3) yNil))))) [.scr ns, .own (.lst ts), s2, .own (.lst (natsL left)), .own (.lst (natsL made))] = some (.none, [.scr ns, .own (.lst (ts ++ [.int 0])), s2, .own (.lst (natsL (left.eraseIdx i))), .own (.lst (natsL (made ++ [left[i]])))]) := by
    unfold eAppend
    rw [hp]
    simp only [ownL, List.getElem?_cons_succ, List.getElem?_cons_zero, Option.bind_some, hml', if_true, List.set_cons_succ, List.set_cons_zero]
    simp [natsL]
  unfold sDrop
  rw [e]
  rfl
theorem ord_loop (ns : List Int) (h63 : ns.length ≤ 63) (s2 : Sl) : ∀ (k : Nat) (left made : List Nat) (ts : List D), left.length < k → left.length + made.length ≤ 100 → ts.length + left.length < 90000 →
    ∃ (l : List Nat) (ts' : List D), whileM (cV (eNeNilO 3)) ordBody k [.scr ns, .own (.lst ts), s2, .own (.lst (natsL left)), .own (.lst (natsL made))] = some (.nx, [.scr ns, .own (.lst ts'), s2, .own (.lst []), .own (.lst (natsL l))]) ∧ l.Perm (made ++ left) ∧ ts'.length = ts.length + left.length
  | 0, left, made, ts, h, _, _ => absurd h (Nat.not_lt_zero _)
  | k + 1, left, made, ts, h, h2, h3 => by
    have hsh := shaped_nats left
    unfold whileM
    by_cases hz : left = []
    · subst hz
      refine ⟨made, ts, ?_, by simp, by simp⟩
      have hsh' : SeqAt.shaped (.list (natsL [])) = true := hsh
      simp only [sSeq, sIf, sNil, sAsg, sRet, sDrop, cV, cAnd, cOr, cNot, cTrue, eOp2, eOp1, eVar, eC, eApp, aCons, aNil, eIf, eAnd, eOr, eNot, eChain, eNeg, asB, dLt, dLe, dGt, dGe, dSub, dAbs, dMin, dMax, dLen, dList, dTuple, mkTup, mkLst, gSet, QL.gTup, gTupF, unTup, sPar2, xDat, xOwn, xNil, noScr, sOwn, oLst, iSeq, asSeq, iApp, endOf, List.map_cons, List.map_nil, List.length_cons, List.length_nil, List.length_set, List.replicate, List.cons_append, List.nil_append, List.getElem?_cons_zero, List.getElem?_cons_succ, List.getElem?_nil, Option.bind_some, Option.bind_none, Option.map_some, Option.map_none, List.set_cons_zero, List.set_cons_succ, List.set_nil, Bool.false_eq_true, if_false, if_true, ne_eq, not_false_eq_true, not_true_eq_false, and_self, and_true, true_and, Bool.not_true, Bool.not_false, Bool.and_true, Bool.true_and, Nat.reduceAdd, Nat.reduceSub, Nat.reduceLeDiff, Nat.reduceLT, Nat.reduceEqDiff, Nat.lt_irrefl, decide_true, decide_false, isa1, isa2, isa3, isa4, isa5, isa6, isa7, isa8, Option.getD_some, ownL, scrAt, eNeNilO, hsh']
      rfl
    · have hl : 0 < left.length := List.length_pos_iff.mpr hz
      obtain ⟨r, hr, r1, r2⟩ := draw_ok ns h63 ts (by omega) left.length (by omega)
      obtain ⟨i, rfl⟩ : ∃ i : Nat, r = (i : Int) := ⟨r.toNat, by omega⟩
      have hi : i < left.length := by omega
      have he : (left.eraseIdx i).length = left.length - 1 := List.length_eraseIdx_of_lt hi
      obtain ⟨l, ts', e, p, q⟩ := ord_loop ns h63 s2 k (left.eraseIdx i) (made ++ [left[i]]) (ts ++ [.int 0]) (by omega) (by simp; omega) (by simp; omega)
      refine ⟨l, ts', ?_, p.trans ?_, by rw [q]; simp; omega⟩
      · have hemp : (natsL left).isEmpty = false := by
          cases left with
          | nil => exact absurd rfl hz
          | cons a b => rfl
        have hb := ord_body ns s2 left made ts i hi (by omega) (by omega) hr
        simp only [sSeq, sIf, sNil, sAsg, sRet, sDrop, cV, cAnd, cOr, cNot, cTrue, eOp2, eOp1, eVar, eC, eApp, aCons, aNil, eIf, eAnd, eOr, eNot, eChain, eNeg, asB, dLt, dLe, dGt, dGe, dSub, dAbs, dMin, dMax, dLen, dList, dTuple, mkTup, mkLst, gSet, QL.gTup, gTupF, unTup, sPar2, xDat, xOwn, xNil, noScr, sOwn, oLst, iSeq, asSeq, iApp, endOf, List.map_cons, List.map_nil, List.length_cons, List.length_nil, List.length_set, List.replicate, List.cons_append, List.nil_append, List.getElem?_cons_zero, List.getElem?_cons_succ, List.getElem?_nil, Option.bind_some, Option.bind_none, Option.map_some, Option.map_none, List.set_cons_zero, List.set_cons_succ, List.set_nil, Bool.false_eq_true, if_false, if_true, ne_eq, not_false_eq_true, not_true_eq_false, and_self, and_true, true_and, Bool.not_true, Bool.not_false, Bool.and_true, Bool.true_and, Nat.reduceAdd, Nat.reduceSub, Nat.reduceLeDiff, Nat.reduceLT, Nat.reduceEqDiff, Nat.lt_irrefl, decide_true, decide_false, isa1, isa2, isa3, isa4, isa5, isa6, isa7, isa8, Option.getD_some, ownL, scrAt, eNeNilO, hsh, hemp, hb, e]
      · rw [List.append_assoc]
        exact List.Perm.append_left made (by simpa using perm_erase left i hi)
theorem order_ok (ns : List Int) (h63 : ns.length ≤ 63) (ts : List D) (ht : ts.length < 80000) (n : Nat) (hn : n ≤ 90) :
    ∃ (l : List Nat) (ts' : List D), F__law_order_of [.scr ns, .own (.lst ts), .dat (.int n)] = some (.tuple (natsL l), [.scr ns, .own (.lst ts'), .dat (.int n)]) ∧ l.Perm (List.range n) ∧ ts'.length = ts.length + n := by
  obtain ⟨l, ts', e, p, q⟩ := ord_loop ns h63 (.dat (.int n)) 100 (List.range n) [] ts (by simp; omega) (by simp; omega) (by simp; omega)
  refine ⟨l, ts', ?_, by simpa using p, by simpa using q⟩
  have hrg : rgBnd [.int n] = some (0, (n : Int)) := by
    have : rgB 0 (n : Int) = true := by
      unfold rgB
      refine decide_eq_true ⟨by decide, by omega, by omega⟩
    exact if_pos this
  have hin : intsD 0 ((n : Int) - 0).toNat = natsL (List.range n) := by
    unfold intsD natsL
    rw [show ((n : Int) - 0).toNat = n by omega]
    refine List.map_congr_left fun i _ => ?_
    show PyData.int (0 + (i : Int)) = .int i
    rw [Int.zero_add]
  have e' : whileM (cV (eNeNilO 3)) (sDrop (eAppend 4 (ePopAt 3 (eAppO F__law_draw (yVar 0 (yVar 1 (yDat (eLenO 3) yNil))))))) 100 [.scr ns, .own (.lst ts), .dat (.int n), .own (.lst (natsL (List.range n))), .own (.lst [])] = some (.nx, [.scr ns, .own (.lst ts'), .dat (.int n), .own (.lst []), .own (.lst (natsL l))]) := e
  unfold F__law_order_of runO B__law_order_of
  simp only [sSeq, sIf, sNil, sAsg, sRet, sDrop, cV, cAnd, cOr, cNot, cTrue, eOp2, eOp1, eVar, eC, eApp, aCons, aNil, eIf, eAnd, eOr, eNot, eChain, eNeg, asB, dLt, dLe, dGt, dGe, dSub, dAbs, dMin, dMax, dLen, dList, dTuple, mkTup, mkLst, gSet, QL.gTup, gTupF, unTup, sPar2, xDat, xOwn, xNil, noScr, sOwn, oLst, iSeq, asSeq, iApp, endOf, List.map_cons, List.map_nil, List.length_cons, List.length_nil, List.length_set, List.replicate, List.cons_append, List.nil_append, List.getElem?_cons_zero, List.getElem?_cons_succ, List.getElem?_nil, Option.bind_some, Option.bind_none, Option.map_some, Option.map_none, List.set_cons_zero, List.set_cons_succ, List.set_nil, Bool.false_eq_true, if_false, if_true, ne_eq, not_false_eq_true, not_true_eq_false, and_self, and_true, true_and, Bool.not_true, Bool.not_false, Bool.and_true, Bool.true_and, Nat.reduceAdd, Nat.reduceSub, Nat.reduceLeDiff, Nat.reduceLT, Nat.reduceEqDiff, Nat.lt_irrefl, decide_true, decide_false, isa1, isa2, isa3, isa4, isa5, isa6, isa7, isa8, Option.getD_some, ownL, scrAt, ownsIn, List.contains_cons, List.contains_nil, BEq.rfl, Bool.true_or, oListRange, hrg, hin, Nat.zero_le, sWhile, fu__law_order_of, e', endO, backO, pick]
theorem Rch.trans {rs : List Room} {x y z : Nat} (h : Rch rs x y) (k : Rch rs y z) : Rch rs x z := by
  induction k with
  | refl => exact h
  | down _ hr ih => exact .down ih hr
  | up _ hr ih => exact .up ih hr
theorem Rch.symm {rs : List Room} {x y : Nat} (h : Rch rs x y) : Rch rs y x := by
  induction h with
  | refl => exact .refl _
  | @down r _ hr ih => exact (Rch.up (.refl _) hr).trans ih
  | @up r _ hr ih => exact (Rch.down (.refl _) hr).trans ih
theorem Rch.mono {rs rs' : List Room} (s : ∀ r ∈ rs, r ∈ rs') {x y : Nat} (h : Rch rs x y) : Rch rs' x y := by
  induction h with
  | refl => exact .refl _
  | down _ hr ih => exact .down ih (s _ hr)
  | up _ hr ih => exact .up ih (s _ hr)

end QP
set_option Elab.async false
set_option linter.all false
set_option maxRecDepth 100000
set_option maxHeartbeats 1000000
namespace QP
open PySem PySem.Spec PyProof.Rows L2 QL
/-! ### a plan by draws -/
def okP (x : Rat) : Prop := 0 < x ∧ Cd 12 360 x ∧ Sz 5 x
theorem dr_prop (ns : List Int) (h63 : ns.length ≤ 63) (ts : List D) (ht : ts.length < 90000) : ∃ x ts', F__law_some_proportion [.scr ns, .own (.lst ts)] = some (fr x, [.scr ns, .own (.lst ts')]) ∧ ts'.length = ts.length + 3 ∧ okP x := by
  obtain ⟨x, ts', h, p, l, a, b, _, ha, hb, hb4, e⟩ := prop_ok ns h63 ts ht
  exact ⟨x, ts', h, l, p.1, Cd.drawn ha hb hb4 e, p.2⟩
structure Drawn (n : Nat) (rs : List Room) : Prop where
  plan : Plan n rs
  ok : ∀ r ∈ rs, okP r.2.2
def okR (n : Nat) (r : Room) : Prop := r.1 < n ∧ r.2.1 < n ∧ r.1 ≠ r.2.1 ∧ okP r.2.2
def treeBody : MS := (sSeq (sPar2 9 10 (xDat (eOp2 dIx (eVar 4) (eVar 5)) (xDat (eOp2 dIx (eVar 4) (eAppO F__law_draw (yVar 0 (yVar 1 (yDat (eVar 5) yNil))))) xNil))) (sDrop (eAppend 8 (eApp mkTup (aCons (eVar 9) (aCons (eVar 10) (aCons (eAppO F__law_some_proportion (yVar 0 (yVar 1 yNil))) aNil)))))))
def moreBody : MS := (sSeq (sAsg (eAppO F__law_draw (yVar 0 (yVar 1 (yDat (eVar 7) yNil)))) (gSet 9)) (sSeq (sAsg (eOp2 dAdd (eOp2 dAdd (eVar 9) (eC (.int 1))) (eAppO F__law_draw (yVar 0 (yVar 1 (yDat (eOp2 dSub (eVar 7) (eC (.int 1))) yNil))))) (gSet 10)) (sDrop (eAppend 8 (eApp mkTup (aCons (eVar 9) (aCons (eIf (cV (eOp2 dGe (eVar 10) (eVar 7))) (eOp2 dSub (eVar 10) (eVar 7)) (eVar 10)) (aCons (eAppO F__law_some_proportion (yVar 0 (yVar 1 yNil))) aNil))))))))
theorem dIx_nats (l : List Nat) (i : Nat) (h : i < l.length) : dIx (.tuple (natsL l)) (.int (i : Int)) = some (.int (l.getD i 0 : Nat)) := by
  show (atI (natsL l) (i : Int)) = _
  rw [atI_nat (nats_get l i h)]
  simp [h]
theorem tree_body (ns : List Int) (h63 : ns.length ≤ 63) (ts : List D) (ht : ts.length < 50000) (l : List Nat) (i : Nat) (hi : 1 + i < l.length) (hl : l.Nodup) (rs : List Room) (hrs : rs.length ≤ 100) (s2 s3 s5 s6 s7 s9 s10 : Sl) :
    ∃ (j : Nat) (p : Rat) (ts' : List D) (s9' s10' : Sl), j < 1 + i ∧ okP p ∧ ts'.length = ts.length + 4 ∧ treeBody [.scr ns, .own (.lst ts), s2, s3, .dat (.tuple (natsL l)), .dat (.int ((1 + i : Nat) : Int)), s6, s7, .own (.lst (rs.map roomD)), s9, s10] = some (.nx, [.scr ns, .own (.lst ts'), s2, s3, .dat (.tuple (natsL l)), .dat (.int ((1 + i : Nat) : Int)), s6, s7, .own (.lst ((rs ++ [(l.getD (1 + i) 0, l.getD j 0, p)]).map roomD)), s9', s10']) := by
  obtain ⟨r, hr, r1, r2⟩ := draw_ok ns h63 ts (by omega) ((1 + i : Nat) : Int) (by omega)
  obtain ⟨j, rfl⟩ : ∃ j : Nat, r = (j : Int) := ⟨r.toNat, by omega⟩
  obtain ⟨p, ts', hp, q1, q2⟩ := dr_prop ns h63 (ts ++ [.int 0]) (by simp; omega)
  refine ⟨j, p, ts', .dat (.int (l.getD (1 + i) 0 : Nat)), .dat (.int (l.getD j 0 : Nat)), by omega, q2, by rw [q1]; simp, ?_⟩
  have d1 := dIx_nats l (1 + i) hi
  have d2 := dIx_nats l j (by omega)
  have hlen : (rs.map roomD).length < 1000000 := by simp; omega
  unfold treeBody
  simp only [sSeq, sIf, sNil, sAsg, sRet, sDrop, cV, cAnd, cOr, cNot, cTrue, eOp2, eOp1, eVar, eC, eApp, aCons, aNil, eIf, eAnd, eOr, eNot, eChain, eNeg, asB, dLt, dLe, dGt, dGe, dSub, dAbs, dMin, dMax, dLen, dList, dTuple, mkTup, mkLst, gSet, QL.gTup, gTupF, unTup, sPar2, xDat, xOwn, xNil, noScr, sOwn, oLst, iSeq, asSeq, iApp, endOf, List.map_cons, List.map_nil, List.length_cons, List.length_nil, List.length_set, List.replicate, List.cons_append, List.nil_append, List.getElem?_cons_zero, List.getElem?_cons_succ, List.getElem?_nil, Option.bind_some, Option.bind_none, Option.map_some, Option.map_none, List.set_cons_zero, List.set_cons_succ, List.set_nil, Bool.false_eq_true, if_false, if_true, ne_eq, not_false_eq_true, not_true_eq_false, and_self, and_true, true_and, Bool.not_true, Bool.not_false, Bool.and_true, Bool.true_and, Nat.reduceAdd, Nat.reduceSub, Nat.reduceLeDiff, Nat.reduceLT, Nat.reduceEqDiff, Nat.lt_irrefl, decide_true, decide_false, isa1, isa2, isa3, isa4, isa5, isa6, isa7, isa8, Option.getD_some, ownL, scrAt, eAppO, yVar, yDat, yNil, isRef, ownIx, List.nodup_cons, List.not_mem_nil, List.nodup_nil, toSl, clr, put, hr, d1, d2, eAppend, hp, hlen]
  simp [roomD]
theorem more_body (ns : List Int) (h63 : ns.length ≤ 63) (ts : List D) (ht : ts.length < 50000) (n : Nat) (hn : 2 ≤ n) (rs : List Room) (hrs : rs.length ≤ 100) (s2 s3 s4 s5 s6 s9 s10 : Sl) :
    ∃ (r : Room) (ts' : List D) (s9' s10' : Sl), okR n r ∧ ts'.length = ts.length + 5 ∧ moreBody [.scr ns, .own (.lst ts), s2, s3, s4, s5, s6, .dat (.int n), .own (.lst (rs.map roomD)), s9, s10] = some (.nx, [.scr ns, .own (.lst ts'), s2, s3, s4, s5, s6, .dat (.int n), .own (.lst ((rs ++ [r]).map roomD)), s9', s10']) := by
  obtain ⟨a, ha, a1, a2⟩ := draw_ok ns h63 ts (by omega) (n : Int) (by omega)
  obtain ⟨c, hc, c1, c2⟩ := draw_ok ns h63 (ts ++ [.int 0]) (by simp; omega) ((n : Int) - 1) (by omega)
  obtain ⟨p, ts', hp, q1, q2⟩ := dr_prop ns h63 (ts ++ [.int 0] ++ [.int 0]) (by simp; omega)
  have hlen : (rs.map roomD).length < 1000000 := by simp; omega
  obtain ⟨x, rfl⟩ : ∃ x : Nat, a = (x : Int) := ⟨a.toNat, by omega⟩
  by_cases hg : (n : Int) ≤ (x : Int) + 1 + c
  · refine ⟨(x, ((x : Int) + 1 + c - n).toNat, p), ts', .dat (.int x), .dat (.int ((x : Int) + 1 + c)), ⟨by show x < n; omega, by show ((x : Int) + 1 + c - n).toNat < n; omega, by show x ≠ ((x : Int) + 1 + c - n).toNat; omega, q2⟩, by rw [q1]; simp, ?_⟩
    have e : (((((x : Int) + 1 + c - n).toNat : Nat) : Int)) = (x : Int) + 1 + c - n := by omega
    have hd : decide ((n : Int) ≤ (x : Int) + 1 + c) = true := decide_eq_true hg
    unfold moreBody
    simp only [sSeq, sIf, sNil, sAsg, sRet, sDrop, cV, cAnd, cOr, cNot, cTrue, eOp2, eOp1, eVar, eC, eApp, aCons, aNil, eIf, eAnd, eOr, eNot, eChain, eNeg, asB, dLt, dLe, dGt, dGe, dSub, dAbs, dMin, dMax, dLen, dList, dTuple, mkTup, mkLst, gSet, QL.gTup, gTupF, unTup, sPar2, xDat, xOwn, xNil, noScr, sOwn, oLst, iSeq, asSeq, iApp, endOf, List.map_cons, List.map_nil, List.length_cons, List.length_nil, List.length_set, List.replicate, List.cons_append, List.nil_append, List.getElem?_cons_zero, List.getElem?_cons_succ, List.getElem?_nil, Option.bind_some, Option.bind_none, Option.map_some, Option.map_none, List.set_cons_zero, List.set_cons_succ, List.set_nil, Bool.false_eq_true, if_false, if_true, ne_eq, not_false_eq_true, not_true_eq_false, and_self, and_true, true_and, Bool.not_true, Bool.not_false, Bool.and_true, Bool.true_and, Nat.reduceAdd, Nat.reduceSub, Nat.reduceLeDiff, Nat.reduceLT, Nat.reduceEqDiff, Nat.lt_irrefl, decide_true, decide_false, isa1, isa2, isa3, isa4, isa5, isa6, isa7, isa8, Option.getD_some, ownL, scrAt, eAppO, yVar, yDat, yNil, isRef, ownIx, List.nodup_cons, List.not_mem_nil, List.nodup_nil, toSl, clr, put, ha, hc, dAdd, hd, eAppend, hp, hlen, List.map_append, roomD, e]
  · refine ⟨(x, ((x : Int) + 1 + c).toNat, p), ts', .dat (.int x), .dat (.int ((x : Int) + 1 + c)), ⟨by show x < n; omega, by show ((x : Int) + 1 + c).toNat < n; omega, by show x ≠ ((x : Int) + 1 + c).toNat; omega, q2⟩, by rw [q1]; simp, ?_⟩
    have e : (((((x : Int) + 1 + c).toNat : Nat) : Int)) = (x : Int) + 1 + c := by omega
    have hd : decide ((n : Int) ≤ (x : Int) + 1 + c) = false := decide_eq_false hg
    unfold moreBody
    simp only [sSeq, sIf, sNil, sAsg, sRet, sDrop, cV, cAnd, cOr, cNot, cTrue, eOp2, eOp1, eVar, eC, eApp, aCons, aNil, eIf, eAnd, eOr, eNot, eChain, eNeg, asB, dLt, dLe, dGt, dGe, dSub, dAbs, dMin, dMax, dLen, dList, dTuple, mkTup, mkLst, gSet, QL.gTup, gTupF, unTup, sPar2, xDat, xOwn, xNil, noScr, sOwn, oLst, iSeq, asSeq, iApp, endOf, List.map_cons, List.map_nil, List.length_cons, List.length_nil, List.length_set, List.replicate, List.cons_append, List.nil_append, List.getElem?_cons_zero, List.getElem?_cons_succ, List.getElem?_nil, Option.bind_some, Option.bind_none, Option.map_some, Option.map_none, List.set_cons_zero, List.set_cons_succ, List.set_nil, Bool.false_eq_true, if_false, if_true, ne_eq, not_false_eq_true, not_true_eq_false, and_self, and_true, true_and, Bool.not_true, Bool.not_false, Bool.and_true, Bool.true_and, Nat.reduceAdd, Nat.reduceSub, Nat.reduceLeDiff, Nat.reduceLT, Nat.reduceEqDiff, Nat.lt_irrefl, decide_true, decide_false, isa1, isa2, isa3, isa4, isa5, isa6, isa7, isa8, Option.getD_some, ownL, scrAt, eAppO, yVar, yDat, yNil, isRef, ownIx, List.nodup_cons, List.not_mem_nil, List.nodup_nil, toSl, clr, put, ha, hc, dAdd, hd, eAppend, hp, hlen, List.map_append, roomD, e]
theorem getD_inj {l : List Nat} (h : l.Nodup) {i j : Nat} (hi : i < l.length) (hj : j < l.length) (e : l.getD i 0 = l.getD j 0) : i = j := by
  rw [List.getD_eq_getElem?_getD, List.getD_eq_getElem?_getD, List.getElem?_eq_getElem hi, List.getElem?_eq_getElem hj] at e
  exact nodup_inj h hi hj e
/-- a plan as it is drawn -/
theorem plan_ok (ns : List Int) (h63 : ns.length ≤ 63) (ts : List D) (ht : ts.length < 10000) (bm mm : Nat) (h2 : 2 ≤ bm) (h6 : bm ≤ 6) (hm : bm - 1 + mm ≤ 15) :
    ∃ (n : Nat) (rs : List Room) (ts' : List D), F__law_some_plan [.scr ns, .own (.lst ts), .dat (.int bm), .dat (.int mm)] = some (planD n rs, [.scr ns, .own (.lst ts'), .dat (.int bm), .dat (.int mm)]) ∧ Drawn n rs ∧ n ≤ bm ∧ rs.length ≤ n - 1 + mm ∧ ts'.length ≤ ts.length + 1000 := by
  obtain ⟨d, hd, d1, d2⟩ := draw_ok ns h63 ts (by omega) ((bm : Int) - 1) (by omega)
  obtain ⟨n, en⟩ : ∃ n : Nat, 2 + d = (n : Int) := ⟨(2 + d).toNat, by omega⟩
  have hn2 : 2 ≤ n := by omega
  have hnb : n ≤ bm := by omega
  obtain ⟨l, t1, ho, hp, ht1⟩ := order_ok ns h63 (ts ++ [.int 0]) (by simp; omega) n (by omega)
  have hll : l.length = n := by rw [hp.length_eq, List.length_range]
  have hnd : l.Nodup := hp.nodup_iff.mpr List.nodup_range
  have hlt : ∀ i, i < n → l.getD i 0 < n := fun i hi => by
    rw [List.getD_eq_getElem?_getD, List.getElem?_eq_getElem (by omega)]
    exact List.mem_range.mp (hp.mem_iff.mp (List.getElem_mem _))
  rw [List.length_append, List.length_singleton] at ht1
  -- the tree
  obtain ⟨ρ1, e1, P1⟩ := forM_inv (g := gSet 5) (b := treeBody) (fun (i : Nat) => .int ((1 + i : Nat) : Int)) (List.range (n - 1))
    (fun i ρ => ∃ (ts : List D) (rs : List Room) (s5 s9 s10 : Sl), ρ = [.scr ns, .own (.lst ts), .dat (.int bm), .dat (.int mm), .dat (.tuple (natsL l)), s5, .un, .dat (.int n), .own (.lst (rs.map roomD)), s9, s10] ∧ ts.length = t1.length + 4 * i ∧ rs.length = i ∧ (∀ r ∈ rs, okR n r) ∧ ∀ k, k ≤ i → Rch rs (l.getD 0 0) (l.getD k 0))
    [.scr ns, .own (.lst t1), .dat (.int bm), .dat (.int mm), .dat (.tuple (natsL l)), .un, .un, .dat (.int n), .own (.lst []), .un, .un]
    (fun i x ρ hx hP => by
      obtain ⟨rfl, hk⟩ := range_get hx
      obtain ⟨ts2, rs, s5, s9, s10, rfl, q1, q2, q3, q4⟩ := hP
      obtain ⟨j, p, ts3, s9', s10', hj, hp', hl', e⟩ := tree_body ns h63 ts2 (by omega) l x (by omega) hnd rs (by omega) (.dat (.int bm)) (.dat (.int mm)) .un .un (.dat (.int n)) s9 s10
      refine ⟨_, _, rfl, e, ts3, rs ++ [(l.getD (1 + x) 0, l.getD j 0, p)], .dat (.int ((1 + x : Nat) : Int)), s9', s10', rfl, by omega, by simp [q2], fun r hr => ?_, fun k hk' => ?_⟩
      · rcases List.mem_append.mp hr with h | h
        · exact q3 r h
        · rw [List.mem_singleton] at h
          subst h
          exact ⟨hlt _ (by omega), hlt _ (by omega), fun z => by have := getD_inj hnd (by omega) (by omega) z; omega, hp'⟩
      · have hm : ∀ r ∈ rs, r ∈ rs ++ [(l.getD (1 + x) 0, l.getD j 0, p)] := fun r hr => List.mem_append_left _ hr
        by_cases h : k ≤ x
        · exact (q4 k h).mono hm
        · have hk2 : k = 1 + x := by omega
          subst hk2
          exact Rch.up (r := (l.getD (1 + x) 0, l.getD j 0, p)) ((q4 j (by omega)).mono hm) (List.mem_append_right _ (List.mem_singleton.mpr rfl)))
    ⟨t1, [], .un, .un, .un, rfl, by omega, rfl, (fun r hr => nomatch hr), fun k hk => by rw [show k = 0 by omega]; exact .refl _⟩
  obtain ⟨t2, rs1, s5, s9, s10, rfl, q1, q2, q3, q4⟩ := P1
  rw [List.length_range] at q1 q2 q4
  obtain ⟨m, hm', m1, m2⟩ := draw_ok ns h63 t2 (by omega) ((mm : Int) + 1) (by omega)
  obtain ⟨m, rfl⟩ : ∃ x : Nat, m = (x : Int) := ⟨m.toNat, by omega⟩
  -- the rooms more
  obtain ⟨ρ2, e2, P2⟩ := forM_inv (g := gSet 6) (b := moreBody) (fun (i : Nat) => .int (i : Int)) (List.range m)
    (fun i ρ => ∃ (ts : List D) (rs : List Room) (s6 s9 s10 : Sl), ρ = [.scr ns, .own (.lst ts), .dat (.int bm), .dat (.int mm), .dat (.tuple (natsL l)), s5, s6, .dat (.int n), .own (.lst ((rs1 ++ rs).map roomD)), s9, s10] ∧ ts.length = t2.length + 1 + 5 * i ∧ rs.length = i ∧ ∀ r ∈ rs, okR n r)
    [.scr ns, .own (.lst (t2 ++ [.int 0])), .dat (.int bm), .dat (.int mm), .dat (.tuple (natsL l)), s5, .un, .dat (.int n), .own (.lst (rs1.map roomD)), s9, s10]
    (fun i x ρ hx hP => by
      obtain ⟨rfl, hk⟩ := range_get hx
      obtain ⟨ts2, rs, s6, s9, s10, rfl, q1', q2', q3'⟩ := hP
      obtain ⟨r, ts3, s9', s10', hr, hl', e⟩ := more_body ns h63 ts2 (by omega) n hn2 (rs1 ++ rs) (by simp; omega) (.dat (.int bm)) (.dat (.int mm)) (.dat (.tuple (natsL l))) s5 (.dat (.int (x : Int))) s9 s10
      rw [List.append_assoc] at e
      refine ⟨_, _, rfl, e, ts3, rs ++ [r], .dat (.int (x : Int)), s9', s10', rfl, by omega, by simp [q2'], fun z hz => ?_⟩
      rcases List.mem_append.mp hz with h | h
      · exact q3' z h
      · rw [List.mem_singleton] at h
        subst h
        exact hr)
    ⟨t2 ++ [.int 0], [], .un, s9, s10, by rw [List.append_nil], by simp, rfl, fun r hr => nomatch hr⟩
  obtain ⟨t3, rs2, s6, s9', s10', rfl, w1, w2, w3⟩ := P2
  rw [List.length_range] at w1 w2
  have hall : ∀ r ∈ rs1 ++ rs2, okR n r := fun r hr => by
    rcases List.mem_append.mp hr with h | h
    · exact q3 r h
    · exact w3 r h
  have hfew : (rs1 ++ rs2).length ≤ n - 1 + mm := by rw [List.length_append, q2, w2]; omega
  refine ⟨n, rs1 ++ rs2, t3, ?_, ⟨⟨hn2, by omega, by rw [List.length_append, q2]; omega, by omega, fun r hr => ⟨(hall r hr).1, (hall r hr).2.1, (hall r hr).2.2.1, (hall r hr).2.2.2.1⟩, fun b hb => ?_⟩, fun r hr => (hall r hr).2.2.2⟩, hnb, hfew, by omega⟩
  · have hr2 := rng2_nat (k := 1) (n := n) (by omega) (by omega)
    have hr2' : rng2 [.int 1, .int (n : Int)] = some ((List.range (n - 1)).map fun (i : Nat) => .int ((1 + i : Nat) : Int)) := hr2
    have hr1 := rng1_nat (n := m) (by omega)
    unfold treeBody at e1
    unfold moreBody at e2
    have hdt : ∀ ds : List D, dTuple [.list ds] = some (.tuple ds) := fun ds => rfl
    unfold F__law_some_plan runO B__law_some_plan
    simp only [sSeq, sIf, sNil, sAsg, sRet, sDrop, cV, cAnd, cOr, cNot, cTrue, eOp2, eOp1, eVar, eC, eApp, aCons, aNil, eIf, eAnd, eOr, eNot, eChain, eNeg, asB, dLt, dLe, dGt, dGe, dSub, dAbs, dMin, dMax, dLen, dList, dTuple, mkTup, mkLst, gSet, QL.gTup, gTupF, unTup, sPar2, xDat, xOwn, xNil, noScr, sOwn, oLst, iSeq, asSeq, iApp, endOf, List.map_cons, List.map_nil, List.length_cons, List.length_nil, List.length_set, List.replicate, List.cons_append, List.nil_append, List.getElem?_cons_zero, List.getElem?_cons_succ, List.getElem?_nil, Option.bind_some, Option.bind_none, Option.map_some, Option.map_none, List.set_cons_zero, List.set_cons_succ, List.set_nil, Bool.false_eq_true, if_false, if_true, ne_eq, not_false_eq_true, not_true_eq_false, and_self, and_true, true_and, Bool.not_true, Bool.not_false, Bool.and_true, Bool.true_and, Nat.reduceAdd, Nat.reduceSub, Nat.reduceLeDiff, Nat.reduceLT, Nat.reduceEqDiff, Nat.lt_irrefl, decide_true, decide_false, isa1, isa2, isa3, isa4, isa5, isa6, isa7, isa8, Option.getD_some, ownL, scrAt, ownsIn, List.contains_cons, List.contains_nil, BEq.rfl, Bool.true_or, eAppO, yVar, yDat, yNil, isRef, ownIx, List.nodup_cons, List.not_mem_nil, List.nodup_nil, toSl, clr, put, hd, dAdd, en, Nat.zero_le, ho, sFor, hr2', e1, hm', hr1, e2, endO, backO, pick]
    rfl
  · have hb' : b ∈ l := hp.mem_iff.mpr (List.mem_range.mpr hb)
    have h0 : 0 ∈ l := hp.mem_iff.mpr (List.mem_range.mpr (by omega))
    have at' : ∀ x, x ∈ l → Rch (rs1 ++ rs2) (l.getD 0 0) x := fun x hx => by
      have hlt' := List.idxOf_lt_length_of_mem hx
      have := (q4 (l.idxOf x) (by omega)).mono (rs' := rs1 ++ rs2) fun r hr => List.mem_append_left _ hr
      rw [List.getD_eq_getElem?_getD (l := l) (i := l.idxOf x), List.getElem?_eq_getElem hlt'] at this
      have ex : (some l[List.idxOf x l]).getD 0 = x := List.getElem_idxOf hlt'
      rw [ex] at this
      exact this
    exact (at' 0 h0).symm.trans (at' b hb')

end QP
set_option Elab.async false
set_option linter.all false
set_option maxRecDepth 100000
set_option maxHeartbeats 1000000
namespace QP
open PySem PySem.Spec PyProof.Rows L2 QL
theorem pos_ne {x : Rat} (h : 0 < x) : x ≠ 0 := fun e => by rw [e] at h; exact absurd h (by decide)
/-! ### what rooms make of levels: straight rules -/
theorem net_lin (x y : Rat) (u v : Nat → Rat) (b : Nat) : ∀ rs : List Room, net rs (fun c => x * u c + y * v c) b = x * net rs u b + y * net rs v b
  | [] => by show (0 : Rat) = x * 0 + y * 0; grind
  | r :: rs => by
    show (if b = r.1 then r.2.2 * ((x * u r.1 + y * v r.1) - (x * u r.2.1 + y * v r.2.1)) else 0) + (if b = r.2.1 then r.2.2 * ((x * u r.2.1 + y * v r.2.1) - (x * u r.1 + y * v r.1)) else 0) + net rs (fun c => x * u c + y * v c) b = x * ((if b = r.1 then r.2.2 * (u r.1 - u r.2.1) else 0) + (if b = r.2.1 then r.2.2 * (u r.2.1 - u r.1) else 0) + net rs u b) + y * ((if b = r.1 then r.2.2 * (v r.1 - v r.2.1) else 0) + (if b = r.2.1 then r.2.2 * (v r.2.1 - v r.1) else 0) + net rs v b)
    rw [net_lin x y u v b rs]
    split <;> split <;> grind
theorem en_lin (x y : Rat) (u v g : Nat → Rat) : ∀ rs : List Room, en rs (fun c => x * u c + y * v c) g = x * en rs u g + y * en rs v g
  | [] => by show (0 : Rat) = x * 0 + y * 0; grind
  | r :: rs => by
    show r.2.2 * ((x * u r.1 + y * v r.1) - (x * u r.2.1 + y * v r.2.1)) * (g r.1 - g r.2.1) + en rs (fun c => x * u c + y * v c) g = x * (r.2.2 * (u r.1 - u r.2.1) * (g r.1 - g r.2.1) + en rs u g) + y * (r.2.2 * (v r.1 - v r.2.1) * (g r.1 - g r.2.1) + en rs v g)
    rw [en_lin x y u v g rs]
    grind
theorem en_symm (u g : Nat → Rat) : ∀ rs : List Room, en rs u g = en rs g u
  | [] => rfl
  | r :: rs => by
    show r.2.2 * (u r.1 - u r.2.1) * (g r.1 - g r.2.1) + en rs u g = r.2.2 * (g r.1 - g r.2.1) * (u r.1 - u r.2.1) + en rs g u
    rw [en_symm u g rs]
    grind
theorem en_lin2 (x y : Rat) (u v g : Nat → Rat) (rs : List Room) : en rs g (fun c => x * u c + y * v c) = x * en rs g u + y * en rs g v := by
  rw [en_symm, en_lin, en_symm u, en_symm v]
theorem net_const (k : Rat) (b : Nat) : ∀ rs : List Room, net rs (fun _ => k) b = 0
  | [] => rfl
  | r :: rs => by
    show (if b = r.1 then r.2.2 * (k - k) else 0) + (if b = r.2.1 then r.2.2 * (k - k) else 0) + net rs (fun _ => k) b = 0
    rw [net_const k b rs]
    split <;> split <;> grind
theorem en_const (k : Rat) (u : Nat → Rat) : ∀ rs : List Room, en rs u (fun _ => k) = 0
  | [] => rfl
  | r :: rs => by
    show r.2.2 * (u r.1 - u r.2.1) * (k - k) + en rs u (fun _ => k) = 0
    rw [en_const k u rs]
    grind
theorem net_congr {n : Nat} {u v : Nat → Rat} (e : ∀ b, b < n → u b = v b) (b : Nat) : ∀ {rs : List Room}, In n rs → net rs u b = net rs v b
  | [], _ => rfl
  | r :: rs, h => by
    obtain ⟨h1, h2, _, _⟩ := h r List.mem_cons_self
    have ih := net_congr e b (rs := rs) fun z hz => h z (List.mem_cons_of_mem _ hz)
    show (if b = r.1 then r.2.2 * (u r.1 - u r.2.1) else 0) + (if b = r.2.1 then r.2.2 * (u r.2.1 - u r.1) else 0) + net rs u b = (if b = r.1 then r.2.2 * (v r.1 - v r.2.1) else 0) + (if b = r.2.1 then r.2.2 * (v r.2.1 - v r.1) else 0) + net rs v b
    rw [ih, e _ h1, e _ h2]
theorem en_congr {n : Nat} {u v : Nat → Rat} (e : ∀ b, b < n → u b = v b) (g : Nat → Rat) : ∀ {rs : List Room}, In n rs → en rs u g = en rs v g
  | [], _ => rfl
  | r :: rs, h => by
    obtain ⟨h1, h2, _, _⟩ := h r List.mem_cons_self
    have ih := en_congr e g (rs := rs) fun z hz => h z (List.mem_cons_of_mem _ hz)
    show r.2.2 * (u r.1 - u r.2.1) * (g r.1 - g r.2.1) + en rs u g = r.2.2 * (v r.1 - v r.2.1) * (g r.1 - g r.2.1) + en rs v g
    rw [ih, e _ h1, e _ h2]
theorem net_app (u : Nat → Rat) (b : Nat) : ∀ l m : List Room, net (l ++ m) u b = net l u b + net m u b
  | [], m => by show net m u b = 0 + net m u b; grind
  | r :: l, m => by
    show (if b = r.1 then r.2.2 * (u r.1 - u r.2.1) else 0) + (if b = r.2.1 then r.2.2 * (u r.2.1 - u r.1) else 0) + net (l ++ m) u b = (if b = r.1 then r.2.2 * (u r.1 - u r.2.1) else 0) + (if b = r.2.1 then r.2.2 * (u r.2.1 - u r.1) else 0) + net l u b + net m u b
    rw [net_app u b l m]
    grind
theorem en_app (u g : Nat → Rat) : ∀ l m : List Room, en (l ++ m) u g = en l u g + en m u g
  | [], m => by show en m u g = 0 + en m u g; grind
  | r :: l, m => by
    show r.2.2 * (u r.1 - u r.2.1) * (g r.1 - g r.2.1) + en (l ++ m) u g = r.2.2 * (u r.1 - u r.2.1) * (g r.1 - g r.2.1) + en l u g + en m u g
    rw [en_app u g l m]
    grind
theorem sum_net {n : Nat} {rs : List Room} (h : In n rs) (u : Nat → Rat) : sm n (fun b => net rs u b) = 0 := by
  have := parts u (fun _ => 1) h
  rw [en_const] at this
  rw [← this]
  exact sm_congr fun b _ => by grind
theorem sm_ends {f : Nat → Rat} {n : Nat} (hn : 2 ≤ n) (h : ∀ b, 0 < b → b < n - 1 → f b = 0) : sm n f = f 0 + f (n - 1) := by
  have e : sm n f = sm n (fun b => (if b = 0 then f b else 0) + (if b = n - 1 then f b else 0)) := sm_congr fun b hb => by
    by_cases q : b = 0
    · rw [if_pos q, if_neg (by omega)]; grind
    · by_cases q2 : b = n - 1
      · rw [if_neg q, if_pos q2]; grind
      · rw [if_neg q, if_neg q2, h b (by omega) (by omega)]; grind
  rw [e, sm_add, sm_pick (by omega), sm_pick (by omega)]
/-- balanced at all inner beams -/
def Hm (n : Nat) (rs : List Room) (u : Nat → Rat) : Prop := ∀ b, 0 < b → b < n - 1 → net rs u b = 0
theorem Hm.last {n : Nat} {rs : List Room} {u : Nat → Rat} (h : In n rs) (hn : 2 ≤ n) (hu : Hm n rs u) : net rs u (n - 1) = - net rs u 0 := by
  have := sum_net h u
  rw [sm_ends hn hu] at this
  grind
theorem Hm.en {n : Nat} {rs : List Room} {u : Nat → Rat} (h : In n rs) (hn : 2 ≤ n) (hu : Hm n rs u) (t : Nat → Rat) : en rs u t = (t (n - 1) - t 0) * (- net rs u 0) := by
  rw [← parts u t h, sm_ends hn fun b h1 h2 => by rw [hu b h1 h2]; grind, hu.last h hn]
  grind
/-- a trial loses as much more as the gap's own loss is -/
theorem trial_gap {n : Nat} {rs : List Room} {u t : Nat → Rat} (h : In n rs) (hn : 2 ≤ n) (hu : Hm n rs u) (u0 : u 0 = 0) (u1 : u (n - 1) = 1) (t0 : t 0 = 0) (t1 : t (n - 1) = 1) :
    QP.en rs t t = - net rs u 0 + QP.en rs (fun c => 1 * t c + (-1) * u c) (fun c => 1 * t c + (-1) * u c) := by
  have e1 := hu.en h hn t
  have e2 := hu.en h hn u
  rw [t0, t1] at e1
  rw [u0, u1] at e2
  rw [en_lin, en_lin2, en_lin2, en_symm t u, e1, e2]
  grind
theorem en_same {n : Nat} {rs : List Room} {w : Nat → Rat} (h : Plan n rs) (w0 : w 0 = 0) (e : en rs w w = 0) : ∀ b, b < n → w b = 0 := fun b hb => by
  rw [← (h.con b hb).eq (en_zero w h.inn e), w0]
/-! ### nothing lies beyond the ends -/
def neg0 (x : Rat) : Rat := if x < 0 then x else 0
theorem neg0_mul (x y : Rat) : (neg0 x - neg0 y) * (neg0 x - neg0 y) ≤ (x - y) * (neg0 x - neg0 y) := by
  unfold neg0
  split <;> split
  · grind
  · rename_i h1 h2
    have : 0 ≤ -x * y := Rat.mul_nonneg (by grind) (by grind)
    grind
  · rename_i h1 h2
    have : 0 ≤ x * -y := Rat.mul_nonneg (by grind) (by grind)
    grind
  · grind
theorem en_neg0 (w : Nat → Rat) : ∀ {rs : List Room} {n : Nat}, In n rs → en rs (fun c => neg0 (w c)) (fun c => neg0 (w c)) ≤ en rs w (fun c => neg0 (w c))
  | [], _, _ => by show (0 : Rat) ≤ 0; grind
  | r :: rs, n, h => by
    have ih := en_neg0 w (rs := rs) fun z hz => h z (List.mem_cons_of_mem _ hz)
    obtain ⟨_, _, _, h4⟩ := h r List.mem_cons_self
    have k := neg0_mul (w r.1) (w r.2.1)
    have := Rat.mul_nonneg (Rat.le_of_lt h4) (show 0 ≤ (w r.1 - w r.2.1) * (neg0 (w r.1) - neg0 (w r.2.1)) - (neg0 (w r.1) - neg0 (w r.2.1)) * (neg0 (w r.1) - neg0 (w r.2.1)) by grind)
    show r.2.2 * (neg0 (w r.1) - neg0 (w r.2.1)) * (neg0 (w r.1) - neg0 (w r.2.1)) + en rs (fun c => neg0 (w c)) (fun c => neg0 (w c)) ≤ r.2.2 * (w r.1 - w r.2.1) * (neg0 (w r.1) - neg0 (w r.2.1)) + en rs w (fun c => neg0 (w c))
    grind
theorem sm_nonpos {f : Nat → Rat} {n : Nat} (h : ∀ i, i < n → f i ≤ 0) : sm n f ≤ 0 := by
  have h1 : 0 ≤ sm n (fun i => (-1) * f i) := sm_nonneg fun i hi => by have := h i hi; grind
  rw [sm_mul] at h1
  grind
theorem maxP {n : Nat} {rs : List Room} {w : Nat → Rat} {fx : Nat → Prop} (h : Plan n rs) (f : Nat) (hf : f < n) (hfx : fx f) (h1 : ∀ b, b < n → fx b → 0 ≤ w b) (h2 : ∀ b, b < n → ¬ fx b → 0 ≤ net rs w b) : ∀ b, b < n → 0 ≤ w b := by
  have z0 : ∀ b, b < n → fx b → neg0 (w b) = 0 := fun b hb q => by
    have := h1 b hb q
    unfold neg0
    rw [if_neg (by grind)]
  have np : ∀ x : Rat, neg0 x ≤ 0 := fun x => by unfold neg0; split <;> grind
  have e1 : en rs w (fun c => neg0 (w c)) ≤ 0 := by
    rw [← parts w _ h.inn]
    refine sm_nonpos fun b hb => ?_
    rcases Classical.em (fx b) with q | q
    · simp only [z0 b hb q]; grind
    · have a := h2 b hb q
      have c := Rat.mul_nonneg (show 0 ≤ - neg0 (w b) by have := np (w b); grind) a
      grind
  have e2 := en_neg0 w h.inn
  have e3 := en_nonneg (fun c => neg0 (w c)) h.inn
  have e4 : en rs (fun c => neg0 (w c)) (fun c => neg0 (w c)) = 0 := by grind
  have hd := en_zero _ h.inn e4
  intro b hb
  have k : neg0 (w b) = 0 := by
    have a1 : neg0 (w 0) = neg0 (w b) := (h.con b hb).eq (u := fun c => neg0 (w c)) hd
    have a2 : neg0 (w 0) = neg0 (w f) := (h.con f hf).eq (u := fun c => neg0 (w c)) hd
    have a3 := z0 f hf hfx
    rw [← a1, a2, a3]
  unfold neg0 at k
  split at k <;> grind

end QP
set_option Elab.async false
set_option linter.all false
set_option maxRecDepth 100000
set_option maxHeartbeats 1000000
namespace QP
open PySem PySem.Spec PyProof.Rows L2 QL
/-! ### answers -/
def dl (x y : Nat) : Rat := if x = y then 1 else 0
/-- nought at the ends, and what is told within -/
structure Grn (n : Nat) (rs : List Room) (f g : Nat → Rat) : Prop where
  top : g 0 = 0
  bot : g (n - 1) = 0
  inn : ∀ b, 0 < b → b < n - 1 → net rs g b = f b
theorem ends_uniq {n : Nat} {rs : List Room} {u v : Nat → Rat} (h : Plan n rs) (h0 : u 0 = v 0) (h1 : u (n - 1) = v (n - 1)) (hb : ∀ b, 0 < b → b < n - 1 → net rs u b = net rs v b) : ∀ b, b < n → u b = v b := by
  have := h.two
  refine uniq (fx := fun b => b = 0 ∨ b = n - 1) h 0 (by omega) (.inl rfl) (fun b hb' q => ?_) fun b hb' q => hb b (by omega) (by omega)
  rcases q with rfl | rfl
  · exact h0
  · exact h1
theorem Grn.en {n : Nat} {rs : List Room} {f g : Nat → Rat} (h : Plan n rs) (hg : Grn n rs f g) (t : Nat → Rat) (t0 : t 0 = 0) (t1 : t (n - 1) = 0) : en rs g t = sm n (fun b => t b * f b) := by
  have hn := h.two
  rw [← parts g t h.inn]
  refine sm_congr fun b hb => ?_
  by_cases q : b = 0
  · subst q; rw [t0]; grind
  · by_cases q2 : b = n - 1
    · subst q2; rw [t1]; grind
    · rw [hg.inn b (by omega) (by omega)]
theorem sm_dl {n x : Nat} (hx : x < n) (t : Nat → Rat) : sm n (fun b => t b * dl x b) = t x := by
  rw [sm_congr (g := fun b => if b = x then t b else 0) fun b _ => by unfold dl; split <;> split <;> grind, sm_pick hx]
/-- one beam's answer at another one is that one's at it -/
theorem Grn.symm {n x y : Nat} {rs : List Room} {g k : Nat → Rat} (h : Plan n rs) (hx : x < n) (hy : y < n) (hg : Grn n rs (dl x) g) (hk : Grn n rs (dl y) k) : g y = k x := by
  have e1 := hg.en h k hk.top hk.bot
  have e2 := hk.en h g hg.top hg.bot
  rw [sm_dl hx] at e1
  rw [sm_dl hy] at e2
  rw [← e1, ← e2, en_symm]
theorem Grn.nonneg {n : Nat} {rs : List Room} {f g : Nat → Rat} (h : Plan n rs) (hg : Grn n rs f g) (hf : ∀ b, 0 ≤ f b) : ∀ b, b < n → 0 ≤ g b := by
  have := h.two
  refine maxP (fx := fun b => b = 0 ∨ b = n - 1) h 0 (by omega) (.inl rfl) (fun b hb' q => ?_) fun b hb' q => by rw [hg.inn b (by omega) (by omega)]; exact hf b
  rcases q with rfl | rfl
  · rw [hg.top]; grind
  · rw [hg.bot]; grind
theorem dl_nonneg (x b : Nat) : 0 ≤ dl x b := by unfold dl; split <;> grind
theorem Grn.own {n x : Nat} {rs : List Room} {g : Nat → Rat} (h : Plan n rs) (hx : x < n) (hg : Grn n rs (dl x) g) : ∀ b, b < n → g b ≤ g x := by
  have h2 := h.two
  have nn := hg.nonneg h (dl_nonneg x)
  have key := maxP (w := fun b => 1 * (fun _ => g x) b + (-1) * g b) (fx := fun b => b = 0 ∨ b = n - 1 ∨ b = x) h 0 (by omega) (.inl rfl) (fun b hb' q => by
    have hx0 := nn x hx
    rcases q with rfl | rfl | rfl
    · rw [hg.top]; grind
    · rw [hg.bot]; grind
    · grind) fun b hb' q => by
    rw [net_lin, net_const, hg.inn b (by omega) (by omega), dl, if_neg (by omega)]
    grind
  intro b hb
  have := key b hb
  grind
/-! ### a room more -/
theorem net_one (a b : Nat) (p : Rat) (u : Nat → Rat) (c : Nat) (hab : a ≠ b) : net [(a, b, p)] u c = p * (u a - u b) * (dl a c - dl b c) := by
  show (if c = a then p * (u a - u b) else 0) + (if c = b then p * (u b - u a) else 0) + 0 = _
  unfold dl
  by_cases q : c = a
  · by_cases q2 : c = b
    · omega
    · rw [if_pos q, if_neg q2, if_pos q.symm, if_neg (fun z => q2 z.symm)]; grind
  · by_cases q2 : c = b
    · rw [if_neg q, if_pos q2, if_neg (fun z => q z.symm), if_pos q2.symm]; grind
    · rw [if_neg q, if_neg q2, if_neg (fun z => q z.symm), if_neg (fun z => q2 z.symm)]; grind
/-- the levels with a room more, by the answers -/
theorem more_lvl {n a b : Nat} {p wd : Rat} {rs : List Room} {u v g : Nat → Rat} (h' : Plan n (rs ++ [(a, b, p)])) (hab : a ≠ b)
    (u0 : u 0 = v 0) (u1 : u (n - 1) = v (n - 1)) (hu : Hm n rs u) (hv : Hm n (rs ++ [(a, b, p)]) v) (hg : Grn n rs (fun c => dl a c - dl b c) g)
    (hw : wd * (1 + p * (g a - g b)) = p * (u b - u a)) : ∀ c, c < n → v c = 1 * u c + wd * g c := by
  refine ends_uniq h' ?_ ?_ fun c h1 h2 => ?_
  · rw [hg.top, u0]; grind
  · rw [hg.bot, u1]; grind
  · rw [hv c h1 h2, net_app, net_lin, hu c h1 h2, hg.inn c h1 h2, net_one _ _ _ _ _ hab]
    have e : p * ((1 * u a + wd * g a) - (1 * u b + wd * g b)) = - wd := by grind
    rw [e]; grind
/-- the hall with a room more -/
theorem more_hall {n a b : Nat} {p wd : Rat} {rs : List Room} {u v g : Nat → Rat} (h : Plan n rs) (h' : Plan n (rs ++ [(a, b, p)])) (hab : a ≠ b)
    (u0 : u 0 = 0) (u1 : u (n - 1) = 1) (v0 : v 0 = 0) (v1 : v (n - 1) = 1) (hu : Hm n rs u) (hv : Hm n (rs ++ [(a, b, p)]) v) (ha : a < n) (hb : b < n) (hg : Grn n rs (fun c => dl a c - dl b c) g)
    (hw : wd * (1 + p * (g a - g b)) = p * (u b - u a)) : - net (rs ++ [(a, b, p)]) v 0 = - net rs u 0 + wd * (u b - u a) := by
  have hn := h.two
  have e1 := hv.en h'.inn hn u
  have e2 := hu.en h.inn hn v
  have e3 := more_lvl h' hab (by rw [u0, v0]) (by rw [u1, v1]) hu hv hg hw
  rw [u0, u1] at e1
  rw [v0, v1] at e2
  rw [en_app, en_symm v u rs, e2] at e1
  have e4 : en [(a, b, p)] v u = p * (v a - v b) * (u a - u b) + 0 := rfl
  rw [e4, e3 a ha, e3 b hb] at e1
  have e5 : p * ((1 * u a + wd * g a) - (1 * u b + wd * g b)) = - wd := by grind
  rw [e5] at e1
  grind
theorem grn_pos {n a b : Nat} {rs : List Room} {g : Nat → Rat} (h : Plan n rs) (ha : a < n) (hb : b < n) (hg : Grn n rs (fun c => dl a c - dl b c) g) : 0 ≤ g a - g b := by
  have e := hg.en h g hg.top hg.bot
  have e2 := en_nonneg g h.inn
  have e3 : sm n (fun c => g c * (dl a c - dl b c)) = g a - g b := by
    rw [sm_congr (g := fun c => g c * dl a c - g c * dl b c) fun c _ => by grind, sm_sub, sm_dl ha, sm_dl hb]
  rw [e, e3] at e2
  exact e2
theorem Grn.sub {n : Nat} {rs : List Room} {f f' g g' : Nat → Rat} (hg : Grn n rs f g) (hg' : Grn n rs f' g') : Grn n rs (fun c => f c - f' c) (fun c => 1 * g c + (-1) * g' c) where
  top := by rw [hg.top, hg'.top]; grind
  bot := by rw [hg.bot, hg'.bot]; grind
  inn := fun b h1 h2 => by rw [net_lin, hg.inn b h1 h2, hg'.inn b h1 h2]; grind
/-! ### ceiling and floor made one -/
def fold (n x : Nat) : Nat := if x = n - 1 then 0 else x
def clsd (n : Nat) (rs : List Room) : List Room := (rs.map fun r => (fold n r.1, fold n r.2.1, r.2.2)).filter fun r => decide (r.1 ≠ r.2.1)
theorem mem_clsd {n : Nat} {rs : List Room} {z : Room} : z ∈ clsd n rs ↔ ∃ r ∈ rs, z = (fold n r.1, fold n r.2.1, r.2.2) ∧ fold n r.1 ≠ fold n r.2.1 := by
  unfold clsd
  rw [List.mem_filter, List.mem_map]
  constructor
  · rintro ⟨⟨r, hr, rfl⟩, h⟩
    exact ⟨r, hr, rfl, of_decide_eq_true h⟩
  · rintro ⟨r, hr, rfl, h⟩
    exact ⟨⟨r, hr, rfl⟩, decide_eq_true h⟩
theorem fold_lt {n x : Nat} (hn : 2 ≤ n) (hx : x < n) : fold n x < n - 1 := by unfold fold; split <;> omega
theorem clsd_rch {n : Nat} {rs : List Room} {x y : Nat} (h : Rch rs x y) : Rch (clsd n rs) (fold n x) (fold n y) := by
  induction h with
  | refl => exact .refl _
  | @down r _ hr ih =>
    by_cases q : fold n r.1 = fold n r.2.1
    · rw [← q]; exact ih
    · exact Rch.down (r := (fold n r.1, fold n r.2.1, r.2.2)) ih (mem_clsd.mpr ⟨r, hr, rfl, q⟩)
  | @up r _ hr ih =>
    by_cases q : fold n r.1 = fold n r.2.1
    · rw [q]; exact ih
    · exact Rch.up (r := (fold n r.1, fold n r.2.1, r.2.2)) ih (mem_clsd.mpr ⟨r, hr, rfl, q⟩)
theorem rch_mem {rs : List Room} {x y : Nat} (h : Rch rs x y) (hxy : x ≠ y) : rs ≠ [] := by
  induction h with
  | refl => exact absurd rfl hxy
  | down _ hr _ => exact List.ne_nil_of_mem hr
  | up _ hr _ => exact List.ne_nil_of_mem hr
theorem clsd_plan {n : Nat} {rs : List Room} (h : Plan n rs) (hn : 3 ≤ n) : Plan (n - 1) (clsd n rs) := by
  have con : ∀ b, b < n - 1 → Rch (clsd n rs) 0 b := fun b hb => by
    have := clsd_rch (n := n) (h.con b (by omega))
    rw [show fold n 0 = 0 by unfold fold; split <;> rfl, show fold n b = b by unfold fold; rw [if_neg (by omega)]] at this
    exact this
  refine ⟨by omega, by have := h.six; omega, ?_, ?_, fun z hz => ?_, con⟩
  · have := rch_mem (con 1 (by omega)) (by decide)
    exact List.length_pos_iff.mpr this
  · have := h.few
    have h2 : (clsd n rs).length ≤ rs.length := by
      unfold clsd
      refine Nat.le_trans (List.length_filter_le _ _) ?_
      rw [List.length_map]; exact Nat.le_refl _
    omega
  · obtain ⟨r, hr, rfl, q⟩ := mem_clsd.mp hz
    obtain ⟨h1, h2, h3, h4⟩ := h.inn r hr
    exact ⟨fold_lt (by omega) h1, fold_lt (by omega) h2, q, h4⟩
theorem clsd_net {n : Nat} {w : Nat → Rat} {c : Nat} (hc : 0 < c) (hc2 : c < n - 1) : ∀ {rs : List Room}, In n rs → net rs (fun x => w (fold n x)) c = net (clsd n rs) w c
  | [], _ => rfl
  | r :: rs, h => by
    have ih := clsd_net (w := w) hc hc2 (rs := rs) fun z hz => h z (List.mem_cons_of_mem _ hz)
    obtain ⟨h1, h2, h3, h4⟩ := h r List.mem_cons_self
    have fc : ∀ x, x < n → (fold n x = c ↔ x = c) := fun x hx => by unfold fold; split <;> omega
    show (if c = r.1 then r.2.2 * (w (fold n r.1) - w (fold n r.2.1)) else 0) + (if c = r.2.1 then r.2.2 * (w (fold n r.2.1) - w (fold n r.1)) else 0) + net rs (fun x => w (fold n x)) c = _
    rw [ih]
    by_cases q : fold n r.1 = fold n r.2.1
    · have e : clsd n (r :: rs) = clsd n rs := by
        unfold clsd
        rw [List.map_cons, List.filter_cons_of_neg (by simp [q])]
      rw [e, q]
      split <;> split <;> grind
    · have e : clsd n (r :: rs) = (fold n r.1, fold n r.2.1, r.2.2) :: clsd n rs := by
        unfold clsd
        rw [List.map_cons, List.filter_cons_of_pos (by simp [q])]
      rw [e]
      show _ = (if c = fold n r.1 then r.2.2 * (w (fold n r.1) - w (fold n r.2.1)) else 0) + (if c = fold n r.2.1 then r.2.2 * (w (fold n r.2.1) - w (fold n r.1)) else 0) + net (clsd n rs) w c
      have i1 := fc _ h1
      have i2 := fc _ h2
      by_cases c1 : c = r.1 <;> by_cases c2 : c = r.2.1 <;> by_cases c3 : c = fold n r.1 <;> by_cases c4 : c = fold n r.2.1 <;> simp only [if_pos, if_neg, c1, c2, c3, c4] <;> grind
/-- how far two beams are: what one is above the other -/
structure Far (n : Nat) (rs : List Room) (a b : Nat) (w : Nat → Rat) : Prop where
  nul : w b = 0
  bal : ∀ c, c < n → c ≠ b → net rs w c = dl a c
theorem Far.at {n a b : Nat} {rs : List Room} {w : Nat → Rat} (h : In n rs) (ha : a < n) (hb : b < n) (hw : Far n rs a b w) : ∀ c, c < n → net rs w c = dl a c - dl b c := by
  have hs := sum_net h w
  by_cases hab : a = b
  · subst hab
    have e : sm n (fun c => net rs w c) = sm n (fun c => if c = a then net rs w c else 0) := sm_congr fun c hc => by
      by_cases q : c = a
      · rw [if_pos q]
      · rw [if_neg q, hw.bal c hc q, dl, if_neg (by omega)]
    rw [e, sm_pick ha] at hs
    intro c hc
    by_cases q : c = a
    · subst q; rw [hs]; grind
    · rw [hw.bal c hc q]; unfold dl; rw [if_neg (by omega)]; grind
  · have e : sm n (fun c => net rs w c) = sm n (fun c => (if c = b then net rs w c else 0) + (if c = a then 1 else 0)) := sm_congr fun c hc => by
      by_cases q : c = b
      · rw [if_pos q, if_neg (by omega)]; grind
      · rw [if_neg q, hw.bal c hc q]; unfold dl
        split <;> split <;> grind
    rw [e, sm_add, sm_pick hb, sm_pick (f := fun _ => (1 : Rat)) ha] at hs
    intro c hc
    by_cases q : c = b
    · subst q; unfold dl; rw [if_neg hab, if_pos rfl]; grind
    · rw [hw.bal c hc q]
      have : dl b c = 0 := by unfold dl; rw [if_neg (fun z => q z.symm)]
      rw [this]; grind
/-- by the plan with ceiling and floor made one -/
theorem far_grn {n a b : Nat} {rs : List Room} {w : Nat → Rat} (h : Plan n rs) (hn : 3 ≤ n) (ha : a < n) (hb : b < n) (hw : Far (n - 1) (clsd n rs) (fold n a) (fold n b) w) : Grn n rs (fun c => dl a c - dl b c) (fun c => 1 * w (fold n c) + (-1) * (fun _ => w 0) c) := by
  have h' := clsd_plan h hn
  have hat := hw.at h'.inn (fold_lt (by omega) ha) (fold_lt (by omega) hb)
  have f0 : fold n 0 = 0 := by unfold fold; split <;> rfl
  have f1 : fold n (n - 1) = 0 := by unfold fold; rw [if_pos rfl]
  refine ⟨by rw [f0]; grind, by rw [f1]; grind, fun c h1 h2 => ?_⟩
  rw [net_lin 1 (-1) (fun c => w (fold n c)), net_const, clsd_net h1 h2 h.inn, hat c h2]
  have e : ∀ x, x < n → dl (fold n x) c = dl x c := fun x hx => by
    unfold dl fold
    by_cases q : x = n - 1
    · rw [if_pos q, if_neg (by omega), if_neg (by omega)]
    · rw [if_neg q]
  rw [e a ha, e b hb]
  grind
theorem grn_uniq {n : Nat} {rs : List Room} {f g g' : Nat → Rat} (h : Plan n rs) (hg : Grn n rs f g) (hg' : Grn n rs f g') : ∀ c, c < n → g c = g' c :=
  ends_uniq h (by rw [hg.top, hg'.top]) (by rw [hg.bot, hg'.bot]) fun b h1 h2 => by rw [hg.inn b h1 h2, hg'.inn b h1 h2]

end QP
set_option Elab.async false
set_option linter.all false
set_option maxRecDepth 100000
set_option maxHeartbeats 1000000
namespace QP
open PySem PySem.Spec PyProof.Rows L2 QL
/-! ### drawn plans: levels, hall, distances, answers -/
theorem Drawn.sml {n : Nat} {rs : List Room} (h : Drawn n rs) : Sml n 15 360 12 rs where
  plan := h.plan
  nz := by decide
  dl := by decide
  cd := fun r hr => (h.ok r hr).2.1
  big := by decide
  sml := by decide
theorem grw4 : grw 15 4 = 255 := rfl
theorem grw5 : grw 15 5 = 511 := rfl
theorem Cd.mul {d e : Int} {A B : Nat} {x y : Rat} (hd : d ≠ 0) (he : e ≠ 0) (hx : Cd d A x) (hy : Cd e B y) : Cd (d * e) (A * B) (x * y) := by
  obtain ⟨v, rfl, hv⟩ := hx
  obtain ⟨w, rfl, hw⟩ := hy
  refine ⟨v * w, ?_, ?_⟩
  · have := int_ne hd
    have := int_ne he
    rw [Rat.intCast_mul, Rat.intCast_mul]
    grind
  · rw [Int.natAbs_mul]
    exact Nat.mul_le_mul hv hw
theorem net_cd {n : Nat} {d D : Int} {B U : Nat} {u : Nat → Rat} (hd : d ≠ 0) (hD : D ≠ 0) (b : Nat) (hu : ∀ c, c < n → Cd D U (u c)) : ∀ {rs : List Room}, In n rs → (∀ r ∈ rs, Cd d B r.2.2) → Cd (d * D) (rs.length * (4 * (B * U))) (net rs u b)
  | [], _, _ => (Cd.zero _).mono (Nat.zero_le _)
  | r :: rs, h, hc => by
    obtain ⟨h1, h2, _, _⟩ := h r List.mem_cons_self
    have ih := net_cd hd hD b hu (rs := rs) (fun z hz => h z (List.mem_cons_of_mem _ hz)) fun z hz => hc z (List.mem_cons_of_mem _ hz)
    have k1 : Cd (d * D) (2 * (B * U)) (r.2.2 * (u r.1 - u r.2.1)) := (Cd.mul hd hD (hc r List.mem_cons_self) ((hu _ h1).sub (hu _ h2))).mono (by rw [Nat.mul_add]; omega)
    have k2 : Cd (d * D) (2 * (B * U)) (r.2.2 * (u r.2.1 - u r.1)) := (Cd.mul hd hD (hc r List.mem_cons_self) ((hu _ h2).sub (hu _ h1))).mono (by rw [Nat.mul_add]; omega)
    have z : Cd (d * D) (2 * (B * U)) 0 := (Cd.zero _).mono (Nat.zero_le _)
    have k3 : Cd (d * D) (2 * (B * U)) (if b = r.1 then r.2.2 * (u r.1 - u r.2.1) else 0) := by split; exact k1; exact z
    have k4 : Cd (d * D) (2 * (B * U)) (if b = r.2.1 then r.2.2 * (u r.2.1 - u r.1) else 0) := by split; exact k2; exact z
    refine ((k3.add k4).add ih).mono ?_
    rw [List.length_cons, Nat.add_mul]
    omega
theorem pow_lt {a b : Nat} (h : a < b) : 2 ^ a < 2 ^ b := Nat.pow_lt_pow_right (by decide) h
theorem net_sz {n g : Nat} {u : Nat → Rat} {rs : List Room} (h : Drawn n rs) (hu : CdU n g u) (b : Nat) : Sz (g + 16) (net rs u b) := by
  obtain ⟨D, h1, h2, h3⟩ := hu
  have k := net_cd (d := 12) (by decide) h1 b h3 h.plan.inn fun r hr => (h.ok r hr).2.1
  have hl := h.plan.few
  have e : 2 ^ (g + 16) = 65536 * 2 ^ g := by rw [Nat.pow_add]; omega
  have hp : 0 < 2 ^ g := Nat.two_pow_pos g
  refine k.sz (Int.mul_ne_zero (by decide) h1) ?_ ?_
  · rw [Int.natAbs_mul]
    show 12 * D.natAbs < _
    omega
  · have := Nat.mul_le_mul_right (4 * (360 * 2 ^ g)) hl
    omega
theorem Sz.hall {n : Nat} {x : Rat} (h : Sz n x) : Sz n (-x) := h.neg
theorem top_hm {n : Nat} {rs : List Room} {u : Nat → Rat} (hn : 2 ≤ n) (h : Lvl n rs u) : u 0 = 0 ∧ u (n - 1) = 1 ∧ Hm n rs u := by
  refine ⟨h.told (0, 0) (by simp [topFx]), h.told (n - 1, 1) (by simp [topFx]), fun b h1 h2 => h.bal b (by omega) ?_⟩
  rw [top_keys]
  simp
  omega
theorem D_lv {n : Nat} {rs : List Room} (h : Drawn n rs) : ∃ u, F_levels_of [planD n rs] = some (.tuple (rowL n u)) ∧ (u 0 = 0 ∧ u (n - 1) = 1 ∧ Hm n rs u) ∧ CdU n 255 u := by
  obtain ⟨u, e, hu, hc⟩ := F_levels_of_eq (M := 4) h.sml (by have := h.plan.six; omega) (by decide)
  exact ⟨u, e, top_hm h.plan.two hu, hc⟩
theorem D_levels {n : Nat} {rs : List Room} (h : Drawn n rs) : ∃ u, F_levels_of [planD n rs] = some (.tuple (rowL n u)) ∧ F_hall_of [planD n rs] = some (fr (- net rs u 0)) ∧ (u 0 = 0 ∧ u (n - 1) = 1 ∧ Hm n rs u) ∧ CdU n 255 u := by
  obtain ⟨u, e, hu, _, e2, _, hc⟩ := plan_all 4 h.sml (by have := h.plan.six; omega) (by decide)
  exact ⟨u, e, e2, top_hm h.plan.two hu, hc⟩
theorem set_dl (n a : Nat) (h : a < n) : (rowL n fun _ => 0).set a (fr 1) = rowL n (dl a) := by
  unfold rowL
  rw [set_range _ _ h]
  refine List.map_congr_left fun i _ => ?_
  unfold dl
  by_cases q : i = a
  · rw [if_pos q, if_pos q.symm]
  · rw [if_neg q, if_neg (fun z => q z.symm)]
theorem dl_cd (a b : Nat) : Cd 12 12 (dl a b) := by
  unfold dl
  split
  · exact ⟨12, by show (1 : Rat) = ((12 : Int) : Rat) / ((12 : Int) : Rat); rw [show ((12 : Int) : Rat) = 12 from rfl]; grind, by decide⟩
  · exact (Cd.zero 12).mono (by decide)
theorem own_rep (n : Nat) (h : n ≤ 1000) {ρ : Ro} {i : Nat} (hi : ρ[i]? = some (.dat (.int n))) : oRep (eApp mkLst (aCons (eC (.tuple [.int 0, .int 1])) aNil)) (eVar i) ρ = some (.lst (rowL n fun _ => 0), ρ) := by
  have hr1 : (0 : Int) ≤ n := by omega
  have hr2 : (n : Int) ≤ 1000 := by omega
  rw [← fr0]
  simp only [oRep, eApp, aCons, aNil, eC, mkLst, Option.bind_some, Option.map_some, eVar, hi, List.length_cons, List.length_nil, Nat.reduceAdd, hr1, hr2, Nat.reduceLeDiff, and_self, if_true, Int.toNat_natCast, rep_flat]
theorem F_with_room_eq {n : Nat} {rs : List Room} {r : Room} (h : Plan n rs) (hl : rs.length < 15) (hr : r.1 < n ∧ r.2.1 < n ∧ r.1 ≠ r.2.1 ∧ 0 < r.2.2) : F_with_room [planD n rs, roomD r] = some (planD n (rs ++ [r])) := by
  have e1 := F_need_plan_eq h
  have e2 := room_true hr.1 hr.2.1 hr.2.2.1 hr.2.2.2
  have h1 := h.one
  have e3 : dEq (.int ((rs.map roomD).length : Int)) (.int 15) = some (.bool false) := by rw [dEq_int]; simp; omega
  have e4 : dAdd (.tuple (rs.map roomD)) (.tuple [roomD r]) = some (.tuple ((rs ++ [r]).map roomD)) := by
    rw [dAdd_tup (fun z => by rw [List.map_eq_nil_iff] at z; rw [z] at h1; simp at h1) (by simp) (by simp; omega), List.map_append]
    rfl
  unfold F_with_room runF B_with_room
  unfold planD roomsD at e1 ⊢
  simp only [sSeq, sIf, sNil, sAsg, sRet, sDrop, cV, cAnd, cOr, cNot, cTrue, eOp2, eOp1, eVar, eC, eApp, aCons, aNil, eIf, eAnd, eOr, eNot, eChain, eNeg, asB, dLt, dLe, dGt, dGe, dSub, dIx, dAbs, dMin, dMax, dLen, dList, dTuple, mkTup, mkLst, gSet, QL.gTup, gTupF, unTup, sPar2, xDat, xOwn, xNil, noScr, sOwn, oLst, iSeq, asSeq, iApp, endOf, List.map_cons, List.map_nil, List.length_cons, List.length_nil, List.length_set, List.replicate, List.cons_append, List.nil_append, List.getElem?_cons_zero, List.getElem?_cons_succ, List.getElem?_nil, Option.bind_some, Option.bind_none, Option.map_some, Option.map_none, List.set_cons_zero, List.set_cons_succ, List.set_nil, Bool.false_eq_true, if_false, if_true, ne_eq, not_false_eq_true, not_true_eq_false, and_self, and_true, true_and, Bool.not_true, Bool.not_false, Bool.and_true, Bool.true_and, Nat.reduceAdd, Nat.reduceSub, Nat.reduceLeDiff, Nat.reduceLT, Nat.reduceEqDiff, Nat.lt_irrefl, decide_true, decide_false, isa1, isa2, isa3, isa4, isa5, isa6, isa7, isa8, atI_0, atI_1, atI_2, atI_3, Option.getD_some, ownL, scrAt, e1, e2, e3, e4]
theorem Drawn.more {n : Nat} {rs : List Room} {r : Room} (h : Drawn n rs) (hl : rs.length < 15) (hr : r.1 < n ∧ r.2.1 < n ∧ r.1 ≠ r.2.1 ∧ okP r.2.2) : Drawn n (rs ++ [r]) where
  plan := {
    two := h.plan.two
    six := h.plan.six
    one := by simp
    few := by simp; omega
    inn := fun z hz => by
      rcases List.mem_append.mp hz with q | q
      · exact h.plan.inn z q
      · rw [List.mem_singleton] at q; subst q; exact ⟨hr.1, hr.2.1, hr.2.2.1, hr.2.2.2.1⟩
    con := fun b hb => (h.plan.con b hb).mono fun z hz => List.mem_append_left _ hz }
  ok := fun z hz => by
    rcases List.mem_append.mp hz with q | q
    · exact h.ok z q
    · rw [List.mem_singleton] at q; subst q; exact hr.2.2.2
theorem Drawn.clsd {n : Nat} {rs : List Room} (h : Drawn n rs) (hn : 3 ≤ n) : Drawn (n - 1) (clsd n rs) where
  plan := clsd_plan h.plan hn
  ok := fun z hz => by
    obtain ⟨r, hr, rfl, _⟩ := mem_clsd.mp hz
    exact h.ok r hr

end QP
set_option Elab.async false
set_option linter.all false
set_option maxRecDepth 100000
set_option maxHeartbeats 1000000
namespace QP
open PySem PySem.Spec PyProof.Rows L2 QL
theorem inv_num {x : Rat} (h : 0 < x) : (1 / x).num = x.den ∧ ((1 / x).den : Int) = x.num := by
  have hp := num_pos h
  have e : 1 / x = x⁻¹ := by rw [Rat.div_def]; grind
  rw [e]
  refine ⟨?_, ?_⟩
  · rw [Rat.num_inv, Int.sign_eq_one_of_pos hp]; omega
  · rw [Rat.den_inv]
    rw [if_neg (by omega)]
    omega
theorem fr_inv {x : Rat} (h : 0 < x) : fr (1 / x) = .tuple [.int x.den, .int x.num] := by
  obtain ⟨h1, h2⟩ := inv_num h
  unfold fr
  rw [h1, h2]
theorem Sz_inv {n : Nat} {x : Rat} (h : 0 < x) (hs : Sz n x) : Sz n (1 / x) := by
  obtain ⟨h1, h2⟩ := inv_num h
  refine ⟨by rw [h1]; exact hs.2, ?_⟩
  have := hs.1
  omega
theorem dNe_rowT {n : Nat} {f g : Nat → Rat} (h : ∀ j, j < n → f j = g j) : dNe (.tuple (rowL n f)) (.tuple (rowL n g)) = some (.bool false) := by
  rw [rowL_congr h]
  unfold dNe
  rw [if_pos ⟨shaped_rowT n g, shaped_rowT n g⟩, eqv_rowT]
  rfl
theorem shaped_rowD (n : Nat) (f : Nat → Rat) : SeqAt.shaped (rowD n f) = true := by
  unfold SeqAt.shaped
  rw [Bool.and_eq_true]
  refine ⟨canLay_row n f, decide_eq_true ?_⟩
  have := depth_row n f
  show PyData.depthAll (rowL n f) + 1 ≤ 64
  omega
theorem dNe_rowD {n : Nat} {f g : Nat → Rat} (h : ∀ j, j < n → f j = g j) : dNe (.list (rowL n f)) (.list (rowL n g)) = some (.bool false) := by
  rw [rowL_congr h]
  unfold dNe
  rw [if_pos ⟨shaped_rowD n g, shaped_rowD n g⟩, show PyData.eqv (.list (rowL n g)) (.list (rowL n g)) = PyData.eqv (.tuple (rowL n g)) (.tuple (rowL n g)) from rfl, eqv_rowT]
  rfl
theorem wrap_ok {n a : Nat} {c : Int} (ha : a < n) (h1 : 0 ≤ c) (h2 : c < (n : Int) - 1) : ∃ b : Nat, b < n ∧ a ≠ b ∧ ((decide ((n : Int) ≤ (a : Int) + 1 + c) = true ∧ (a : Int) + 1 + c - n = b) ∨ (decide ((n : Int) ≤ (a : Int) + 1 + c) = false ∧ (a : Int) + 1 + c = b)) := by
  by_cases hg : (n : Int) ≤ (a : Int) + 1 + c
  · exact ⟨((a : Int) + 1 + c - n).toNat, by omega, by omega, .inl ⟨decide_eq_true hg, by omega⟩⟩
  · exact ⟨((a : Int) + 1 + c).toNat, by omega, by omega, .inr ⟨decide_eq_false hg, by omega⟩⟩
theorem dIxT {n : Nat} (f : Nat → Rat) {j : Nat} (h : j < n) : dIx (.tuple (rowL n f)) (.int (j : Nat)) = some (fr (f j)) := atI_row f h
theorem dIxL {n : Nat} (f : Nat → Rat) {j : Nat} (h : j < n) : dIx (.list (rowL n f)) (.int (j : Nat)) = some (fr (f j)) := atI_row f h
theorem tup_lst (ds : List D) : dTuple [.list ds] = some (.tuple ds) := rfl
theorem lst_tup (ds : List D) : dList [.tuple ds] = some (.list ds) := rfl
theorem ix0 (n : Nat) (rs : List Room) : dIx (planD n rs) (.int 0) = some (.int n) := rfl
theorem ix1 (n : Nat) (rs : List Room) : dIx (planD n rs) (.int 1) = some (roomsD rs) := rfl
theorem fx0 (x : Rat) : dIx (fr x) (.int 0) = some (.int x.num) := rfl
theorem fx1 (x : Rat) : dIx (fr x) (.int 1) = some (.int x.den) := rfl
theorem unPlan (n : Nat) (rs : List Room) : unTup (planD n rs) = some [.int n, roomsD rs] := rfl
theorem dEq_nn (a b : Nat) : dEq (.int (a : Nat)) (.int (b : Nat)) = some (.bool (decide (a = b))) := by
  rw [dEq_int]
  by_cases q : a = b
  · simp [q]
  · have : ¬ (a : Int) = (b : Int) := by omega
    simp [q, this]
theorem dNe_nat (a b : Nat) : dNe (.int (a : Nat)) (.int (b : Nat)) = some (.bool (!decide (a = b))) := by
  rw [dNe_int]
  by_cases q : a = b
  · simp [q]
  · have : ¬ (a : Int) = (b : Int) := by omega
    simp [q, this]
theorem dEq_last {n : Nat} (hn : 1 ≤ n) (a : Nat) : dEq (.int (a : Nat)) (.int ((n : Int) - 1)) = some (.bool (decide (a = n - 1))) := by
  rw [show (n : Int) - 1 = ((n - 1 : Nat) : Int) by omega]
  exact dEq_nn _ _
theorem fold_if {n x i j : Nat} {ρ : Ro} (hn : 1 ≤ n) (hi : ρ[i]? = some (.dat (.int (x : Nat)))) (hj : ρ[j]? = some (.dat (.int ((n : Int) - 1)))) : eIf (cV (eOp2 dEq (eVar i) (eVar j))) (eC (.int 0)) (eVar i) ρ = some (.int (fold n x : Nat), ρ) := by
  have e := dEq_last hn x
  by_cases q : x = n - 1
  · rw [decide_eq_true q] at e
    simp only [eIf, cV, eOp2, eVar, hi, hj, Option.bind_some, e, Option.map_some, asB, eC, if_true]
    unfold fold
    rw [if_pos q]; rfl
  · rw [decide_eq_false q] at e
    simp only [eIf, cV, eOp2, eVar, hi, hj, Option.bind_some, e, Option.map_some, asB, eC, Bool.false_eq_true, if_false]
    unfold fold
    rw [if_neg q]
theorem clsd_app (n : Nat) (l m : List Room) : clsd n (l ++ m) = clsd n l ++ clsd n m := by
  unfold clsd
  rw [List.map_append, List.filter_append]
theorem clsd_one (n : Nat) (r : Room) : clsd n [r] = if fold n r.1 = fold n r.2.1 then [] else [(fold n r.1, fold n r.2.1, r.2.2)] := by
  unfold clsd
  by_cases q : fold n r.1 = fold n r.2.1
  · simp [q]
  · simp [q]
theorem unTup_t (ds : List D) : unTup (.tuple ds) = some ds := rfl
theorem asSeq_t (ds : List D) : asSeq (.tuple ds) = some ds := rfl
theorem asSeq_l (ds : List D) : asSeq (.list ds) = some ds := rfl
theorem asRooms (rs : List Room) : asSeq (roomsD rs) = some (rs.map roomD) := rfl

end QP
set_option Elab.async false
set_option linter.all false
set_option maxRecDepth 100000
set_option maxHeartbeats 1000000
namespace QP
open PySem PySem.Spec PyProof.Rows L2 QL
theorem atI_last {n : Nat} (f : Nat → Rat) (h : 1 ≤ n) : atI (rowL n f) (-1) = some (fr (f (n - 1))) := by
  unfold atI
  have e : ixN (rowL n f).length (-1) = some (n - 1) := by
    rw [rowL_length]
    unfold ixN
    rw [if_neg (by decide), if_pos (by omega)]
    congr 1
    omega
  rw [e, Option.bind_some]
  unfold rowL
  rw [List.getElem?_map, List.getElem?_range (by omega)]
  rfl
theorem dIx_lastT {n : Nat} (f : Nat → Rat) (h : 1 ≤ n) : dIx (.tuple (rowL n f)) (.int (-1)) = some (fr (f (n - 1))) := atI_last f h
theorem dIx_lastL {n : Nat} (f : Nat → Rat) (h : 1 ≤ n) : dIx (.list (rowL n f)) (.int (-1)) = some (fr (f (n - 1))) := atI_last f h

end QP
set_option Elab.async false
set_option linter.all false
set_option maxRecDepth 100000
set_option maxHeartbeats 1000000
namespace QP
open PySem PySem.Spec PyProof.Rows L2 QL
/-! ### distances: laws -/
theorem far_symm {n a b : Nat} {rs : List Room} {w w' : Nat → Rat} (h : Plan n rs) (ha : a < n) (hb : b < n) (hw : Far n rs a b w) (hw' : Far n rs b a w') : w a = w' b := by
  have a1 := hw.at h.inn ha hb
  have a2 := hw'.at h.inn hb ha
  have key := uniq (u := fun c => 1 * w c + 1 * w' c) (v := fun _ => w' b) (fx := fun x => x = b) h b hb rfl (fun x _ q => by rw [q, hw.nul]; grind) (fun x hx _ => by
    rw [net_lin, net_const, a1 x hx, a2 x hx]; grind) a ha
  have key' : 1 * w a + 1 * w' a = w' b := key
  rw [hw'.nul] at key'
  grind
theorem far_nonneg {n a b : Nat} {rs : List Room} {w : Nat → Rat} (h : Plan n rs) (hb : b < n) (hw : Far n rs a b w) : ∀ c, c < n → 0 ≤ w c :=
  maxP (fx := fun x => x = b) h b hb rfl (fun x _ q => by rw [q, hw.nul]; grind) fun x hx q => by rw [hw.bal x hx q]; exact dl_nonneg _ _
theorem far_pos {n a b : Nat} {rs : List Room} {w : Nat → Rat} (h : Plan n rs) (ha : a < n) (hb : b < n) (hab : a ≠ b) (hw : Far n rs a b w) : 0 < w a := by
  have nn := far_nonneg h hb hw a ha
  rcases Classical.em (w a = 0) with q | q
  · have at' := hw.at h.inn ha hb
    have e : en rs w w = 0 := by
      rw [← parts w w h.inn, sm_congr (g := fun c => w c * dl a c - w c * dl b c) fun c hc => by rw [at' c hc]; grind, sm_sub, sm_dl ha, sm_dl hb, q, hw.nul]
      grind
    have hd := en_zero w h.inn e
    have hc : ∀ c, c < n → w c = (fun _ => w 0) c := fun c hc => ((h.con c hc).eq hd).symm
    have n0 := at' a ha
    rw [net_congr hc a h.inn, net_const] at n0
    unfold dl at n0
    rw [if_pos rfl, if_neg (fun z => hab z.symm)] at n0
    grind
  · grind
theorem far_tri {n a b c : Nat} {rs : List Room} {w1 w2 w3 : Nat → Rat} (h : Plan n rs) (ha : a < n) (hb : b < n) (hc : c < n) (h1 : Far n rs a b w1) (h2 : Far n rs a c w2) (h3 : Far n rs c b w3) : w1 a ≤ w2 a + w3 c := by
  have a1 := h1.at h.inn ha hb
  have a2 := h2.at h.inn ha hc
  have a3 := h3.at h.inn hc hb
  have key := uniq (u := w1) (v := fun x => 1 * (1 * w2 x + 1 * w3 x) + (- w2 b) * (fun _ => 1) x) (fx := fun x => x = b) h b hb rfl (fun x _ q => by
    subst q
    show w1 x = 1 * (1 * w2 x + 1 * w3 x) + (- w2 x) * 1
    rw [h1.nul, h3.nul]; grind) (fun x hx _ => by
    rw [net_lin 1 (- w2 b) (fun x => 1 * w2 x + 1 * w3 x), net_const, net_lin, a1 x hx, a2 x hx, a3 x hx]; grind) a ha
  have key' : w1 a = 1 * (1 * w2 a + 1 * w3 a) + (- w2 b) * 1 := key
  have n2 := far_nonneg h hc h2 b hb
  have n3 := far_nonneg h hb h3
  have own := maxP (w := fun x => 1 * (fun _ => w3 c) x + (-1) * w3 x) (fx := fun x => x = b ∨ x = c) h b hb (.inl rfl) (fun x hx q => by
    rcases q with rfl | rfl
    · show 0 ≤ 1 * w3 c + (-1) * w3 x
      rw [h3.nul]
      have := n3 c hc
      grind
    · show 0 ≤ 1 * w3 x + (-1) * w3 x
      grind) (fun x hx q => by
    rw [net_lin, net_const, a3 x hx]
    unfold dl
    rw [if_neg (by omega), if_neg (by omega)]
    grind) a ha
  have own' : 0 ≤ 1 * w3 c + (-1) * w3 a := own
  grind
/-- the hall that has two beams as ceiling and floor is one over how far they are -/
theorem far_hall {n a b : Nat} {rs : List Room} {w v : Nat → Rat} (h : Plan n rs) (ha : a < n) (hb : b < n) (hab : a ≠ b) (hw : Far n rs a b w) (va : v a = 0) (vb : v b = 1) (hv : ∀ c, c < n → c ≠ a → c ≠ b → net rs v c = 0) : - net rs v a = 1 / w a := by
  have p := far_pos h ha hb hab hw
  have pn := pos_ne p
  have at' := hw.at h.inn ha hb
  have key := uniq (u := v) (v := fun c => 1 * (fun _ => 1) c + (-(1 / w a)) * w c) (fx := fun x => x = a ∨ x = b) h a ha (.inl rfl) (fun x _ q => by
    rcases q with rfl | rfl
    · rw [va]; grind
    · rw [vb, hw.nul]; grind) (fun x hx q => by
    rw [hv x hx (fun z => q (.inl z)) (fun z => q (.inr z)), net_lin, net_const, at' x hx]
    unfold dl
    rw [if_neg (by omega), if_neg (by omega)]
    grind)
  rw [net_congr key a h.inn, net_lin, net_const, at' a ha]
  unfold dl
  rw [if_pos rfl, if_neg (fun z => hab z.symm)]
  grind
/-! ### beams called otherwise -/
def relab (f : Nat → Nat) (rs : List Room) : List Room := rs.map fun r => (f r.1, f r.2.1, r.2.2)
structure Bij (n : Nat) (f : Nat → Nat) : Prop where
  lt : ∀ x, x < n → f x < n
  inj : ∀ x y, x < n → y < n → f x = f y → x = y
  sur : ∀ y, y < n → ∃ x, x < n ∧ f x = y
theorem relab_net {n : Nat} {f : Nat → Nat} (hf : Bij n f) (v : Nat → Rat) {c : Nat} (hc : c < n) : ∀ {rs : List Room}, In n rs → net (relab f rs) v (f c) = net rs (fun x => v (f x)) c
  | [], _ => rfl
  | r :: rs, h => by
    obtain ⟨h1, h2, _, _⟩ := h r List.mem_cons_self
    have ih := relab_net hf v hc (rs := rs) fun z hz => h z (List.mem_cons_of_mem _ hz)
    have i1 : f c = f r.1 ↔ c = r.1 := ⟨hf.inj _ _ hc h1, fun z => by rw [z]⟩
    have i2 : f c = f r.2.1 ↔ c = r.2.1 := ⟨hf.inj _ _ hc h2, fun z => by rw [z]⟩
    show (if f c = f r.1 then r.2.2 * (v (f r.1) - v (f r.2.1)) else 0) + (if f c = f r.2.1 then r.2.2 * (v (f r.2.1) - v (f r.1)) else 0) + net (relab f rs) v (f c) = (if c = r.1 then r.2.2 * (v (f r.1) - v (f r.2.1)) else 0) + (if c = r.2.1 then r.2.2 * (v (f r.2.1) - v (f r.1)) else 0) + net rs (fun x => v (f x)) c
    rw [ih]
    simp only [i1, i2]
theorem relab_rch {f : Nat → Nat} {rs : List Room} {x y : Nat} (h : Rch rs x y) : Rch (relab f rs) (f x) (f y) := by
  induction h with
  | refl => exact .refl _
  | @down r _ hr ih => exact Rch.down (r := (f r.1, f r.2.1, r.2.2)) ih (List.mem_map.mpr ⟨r, hr, rfl⟩)
  | @up r _ hr ih => exact Rch.up (r := (f r.1, f r.2.1, r.2.2)) ih (List.mem_map.mpr ⟨r, hr, rfl⟩)
theorem Drawn.relab {n : Nat} {f : Nat → Nat} {rs : List Room} (h : Drawn n rs) (hf : Bij n f) : Drawn n (relab f rs) where
  plan := {
    two := h.plan.two
    six := h.plan.six
    one := by unfold QP.relab; rw [List.length_map]; exact h.plan.one
    few := by unfold QP.relab; rw [List.length_map]; exact h.plan.few
    inn := fun z hz => by
      obtain ⟨r, hr, rfl⟩ := List.mem_map.mp hz
      obtain ⟨h1, h2, h3, h4⟩ := h.plan.inn r hr
      exact ⟨hf.lt _ h1, hf.lt _ h2, fun q => h3 (hf.inj _ _ h1 h2 q), h4⟩
    con := fun b hb => by
      obtain ⟨x, hx, rfl⟩ := hf.sur b hb
      obtain ⟨z, hz, ez⟩ := hf.sur 0 (by have := h.plan.two; omega)
      have := relab_rch (f := f) ((h.plan.con z hz).symm.trans (h.plan.con x hx))
      rw [ez] at this
      exact this }
  ok := fun z hz => by
    obtain ⟨r, hr, rfl⟩ := List.mem_map.mp hz
    exact h.ok r hr
theorem idx_cast (x : Nat) : ∀ l : List Nat, (l.map fun (b : Nat) => (b : Int)).idxOf (x : Int) = l.idxOf x
  | [] => rfl
  | a :: l => by
    rw [List.map_cons, List.idxOf_cons, List.idxOf_cons, idx_cast x l]
    by_cases q : a = x
    · have : ((a : Int) == (x : Int)) = true := by simp [q]
      rw [this]
      simp [q]
    · have h1 : ((a : Int) == (x : Int)) = false := by simp; omega
      have h2 : (a == x) = false := by simp [q]
      rw [h1, h2]
theorem dIndex_nats (l : List Nat) (x : Nat) (h : x ∈ l) : dIndex (.list (natsL l)) (.int (x : Nat)) = some (.int (l.idxOf x : Nat)) := by
  have hm : (x : Int) ∈ l.map fun (b : Nat) => (b : Int) := List.mem_map.mpr ⟨x, h, rfl⟩
  have e : dIndex (.list (natsL l)) (.int (x : Nat)) = (intsOf (natsL l)).bind fun xs => if (x : Int) ∈ xs then some (.int (xs.idxOf (x : Int) : Nat)) else none := rfl
  rw [e, ints_nats, Option.bind_some, if_pos hm, idx_cast]
theorem bij_idx {n : Nat} {l : List Nat} (hp : l.Perm (List.range n)) : Bij n (fun x => l.idxOf x) := by
  have hl : l.length = n := by rw [hp.length_eq, List.length_range]
  have hnd : l.Nodup := hp.nodup_iff.mpr List.nodup_range
  have hm : ∀ x, x < n → x ∈ l := fun x hx => hp.mem_iff.mpr (List.mem_range.mpr hx)
  refine ⟨fun x hx => by rw [← hl]; exact List.idxOf_lt_length_of_mem (hm x hx), fun x y hx hy e => ?_, fun y hy => ?_⟩
  · have e1 := List.getElem_idxOf (List.idxOf_lt_length_of_mem (hm x hx))
    have e2 := List.getElem_idxOf (List.idxOf_lt_length_of_mem (hm y hy))
    rw [← e1, ← e2]
    have e' : l.idxOf x = l.idxOf y := e
    simp only [e']
  · have hy' : y < l.length := by omega
    exact ⟨l[y], List.mem_range.mp (hp.mem_iff.mp (List.getElem_mem _)), List.Nodup.idxOf_getElem hnd y hy'⟩

end QP
set_option Elab.async false
set_option linter.all false
set_option maxRecDepth 100000
set_option maxHeartbeats 1000000
namespace QP
open PySem PySem.Spec PyProof.Rows L2 QL
/-! ### a thing equals itself -/
mutual
theorem eqv_same : ∀ d : D, PyData.canLay0 d = true → PyData.eqv d d = true
  | .none, _ => rfl
  | .bool b, _ => by cases b <;> rfl
  | .int i, _ => by show (i == i) = true; simp
  | .str x, _ => by show (x == x) = true; simp
  | .list xs, h => by
    show PyData.eqvAll xs xs = true
    exact eqvAll_same xs (by simpa [PyData.canLay0] using h)
  | .tuple xs, h => by
    show PyData.eqvAll xs xs = true
    exact eqvAll_same xs (by simpa [PyData.canLay0] using h)
  | .dict _, h => by simp [PyData.canLay0] at h
theorem eqvAll_same : ∀ ds : List D, PyData.canLayAll0 ds = true → PyData.eqvAll ds ds = true
  | [], _ => rfl
  | d :: ds, h => by
    simp [PyData.canLayAll0] at h
    show (PyData.eqv d d && PyData.eqvAll ds ds) = true
    rw [eqv_same d h.1, eqvAll_same ds h.2]
    rfl
end
theorem shaped_mk {d : D} (h1 : PyData.canLay0 d = true) (h2 : PyData.depth d ≤ 64) : SeqAt.shaped d = true := by
  unfold SeqAt.shaped
  rw [Bool.and_eq_true]
  exact ⟨h1, decide_eq_true h2⟩
theorem dEq_same {d : D} (h : SeqAt.shaped d = true) : dEq d d = some (.bool true) := dEq_refl h (eqv_same d (shaped_lay h))
theorem dNe_same {d : D} (h : SeqAt.shaped d = true) : dNe d d = some (.bool false) := by
  unfold dNe
  rw [if_pos ⟨h, h⟩, eqv_same d (shaped_lay h)]
  rfl
theorem lay_all {α : Type} (f : α → D) : ∀ l : List α, (∀ a ∈ l, PyData.canLay0 (f a) = true) → PyData.canLayAll0 (l.map f) = true
  | [], _ => rfl
  | a :: l, h => by
    show (PyData.canLay0 (f a) && PyData.canLayAll0 (l.map f)) = true
    rw [h a List.mem_cons_self, lay_all f l fun b hb => h b (List.mem_cons_of_mem _ hb)]
    rfl
theorem depth_all {α : Type} {k : Nat} (f : α → D) : ∀ l : List α, (∀ a ∈ l, PyData.depth (f a) ≤ k) → PyData.depthAll (l.map f) ≤ k
  | [], _ => Nat.zero_le _
  | a :: l, h => by
    show max (PyData.depth (f a)) (PyData.depthAll (l.map f)) ≤ k
    exact Nat.max_le.mpr ⟨h a List.mem_cons_self, depth_all f l fun b hb => h b (List.mem_cons_of_mem _ hb)⟩
theorem shaped_rooms (rs : List Room) : SeqAt.shaped (roomsD rs) = true := by
  have h1 := lay_all roomD rs fun _ _ => rfl
  have h2 : PyData.depthAll (rs.map roomD) ≤ 2 := depth_all roomD rs fun _ _ => by show max 0 (max 0 (max (max 0 (max 0 0) + 1) 0)) + 1 ≤ 2; decide
  refine shaped_mk ?_ ?_
  · show PyData.canLayAll0 (rs.map roomD) = true
    exact h1
  · show PyData.depthAll (rs.map roomD) + 1 ≤ 64
    omega
theorem shaped_plan (n : Nat) (rs : List Room) : SeqAt.shaped (planD n rs) = true := by
  have h1 := lay_all roomD rs fun _ _ => rfl
  have h2 : PyData.depthAll (rs.map roomD) ≤ 2 := depth_all roomD rs fun _ _ => by show max 0 (max 0 (max (max 0 (max 0 0) + 1) 0)) + 1 ≤ 2; decide
  refine shaped_mk ?_ ?_
  · show (true && (PyData.canLayAll0 (rs.map roomD) && true)) = true
    rw [h1]; rfl
  · show max 0 (max (PyData.depthAll (rs.map roomD) + 1) 0) + 1 ≤ 64
    omega
/-- tuples added, empty ones too -/
theorem dAddT_app (a b : List D) (h : a.length + b.length ≤ 1000000) : dAddT (.tuple a) (.tuple b) = some (.tuple (a ++ b)) := by
  cases a with
  | nil => rfl
  | cons x a =>
    cases b with
    | nil =>
      have h2 : a.length + 1 ≤ 1000000 := by simpa using h
      show (if a.length + 1 ≤ 1000000 then some (PyData.tuple (x :: a)) else none) = _
      rw [if_pos h2, List.append_nil]
    | cons y b => exact dAdd_tup (by simp) (by simp) h
theorem cut_to (xs : List D) (k : Nat) (h : k ≤ xs.length) : dSlice (.tuple xs) none (some (k : Int)) = some (.tuple (xs.take k)) := by
  show some (PyData.tuple (QL.cutD xs none (some (k : Int)))) = _
  congr 2
  unfold QL.cutD
  have e1 : HT.sIx xs.length 0 none = 0 := rfl
  have e2 : HT.sIx xs.length xs.length (some (k : Int)) = k := by
    show (if (k : Int) < 0 then ((k : Int) + (xs.length : Int)).toNat else min (k : Int).toNat xs.length) = k
    rw [if_neg (by omega), Int.toNat_natCast]
    omega
  rw [e1, e2, List.drop_zero, Nat.sub_zero]
theorem cut_from (xs : List D) (k : Nat) (h : k ≤ xs.length) : dSlice (.tuple xs) (some (k : Int)) none = some (.tuple (xs.drop k)) := by
  show some (PyData.tuple (QL.cutD xs (some (k : Int)) none)) = _
  congr 2
  unfold QL.cutD
  have e1 : HT.sIx xs.length 0 (some (k : Int)) = k := by
    show (if (k : Int) < 0 then ((k : Int) + (xs.length : Int)).toNat else min (k : Int).toNat xs.length) = k
    rw [if_neg (by omega), Int.toNat_natCast]
    omega
  have e2 : HT.sIx xs.length xs.length none = xs.length := rfl
  rw [e1, e2, List.take_of_length_le (by rw [List.length_drop]; exact Nat.le_refl _)]
/-- a comprehension whose iterable changes slots -/
theorem eLcT1 {α : Type} {vs : List Nat} {ρ ρ1 : Ro} {it : M (List D)} {tg : D → Ro → Option Ro} {m : M D} (g h : α → D) (τ : α → Ro) (as : List α) (hit : it ρ = some (as.map g, ρ1)) (hl : as.length ≤ 1000000)
    (hm : ∀ a ∈ as, tg (g a) (wipeR ρ1 vs) = some (τ a) ∧ m (τ a) = some (h a, τ a) ∧ wipeR (τ a) vs = wipeR ρ1 vs) (hb : backR ρ1 (wipeR (wipeR ρ1 vs) vs) vs = ρ1) :
    eLc vs it tg cTrue m ρ = some (.list (as.map h), ρ1) := by
  have key := lcM_pure (ρ0 := wipeR ρ1 vs) (c := cTrue) (p := fun _ => true) (h := h) (g := g) (m := m) (tg := tg) τ as [] (fun a ha => ⟨(hm a ha).1, rfl, fun _ => (hm a ha).2.1, (hm a ha).2.2⟩) (by simpa using hl)
  unfold eLc oLc
  rw [hit, Option.bind_some, key, Option.map_some, Option.map_some, List.nil_append, hb, filter_true]
theorem enum_gen {α : Type} (f : α → D) (d : α) (l : List α) : enumL (l.map f) = (List.range l.length).map fun i => .tuple [.int (i : Nat), f (l.getD i d)] := by
  refine List.ext_getElem? fun i => ?_
  unfold enumL
  by_cases h : i < l.length
  · simp [h]
  · simp [h]
theorem dListRange_nat (n : Nat) (h : n ≤ 1000) : dListRange [.int (n : Nat)] = some (.list (natsL (List.range n))) := by
  have hrg : rgBnd [.int n] = some (0, (n : Int)) := by
    have : rgB 0 (n : Int) = true := by
      unfold rgB
      refine decide_eq_true ⟨by decide, by omega, by omega⟩
    exact if_pos this
  have hin : intsD 0 ((n : Int) - 0).toNat = natsL (List.range n) := by
    unfold intsD natsL
    rw [show ((n : Int) - 0).toNat = n by omega]
    refine List.map_congr_left fun i _ => ?_
    show PyData.int (0 + (i : Int)) = .int i
    rw [Int.zero_add]
  unfold dListRange
  rw [hrg, Option.map_some]
  show some (PyData.list (intsD 0 ((n : Int) - 0).toNat)) = _
  rw [hin]

end QP
set_option Elab.async false
set_option linter.all false
set_option maxRecDepth 100000
set_option maxHeartbeats 1000000
namespace QP
open PySem PySem.Spec PyProof.Rows L2 QL
/-! ### a plan without a room -/
theorem eqvAll_ints : ∀ xs ys : List Int, PyData.eqvAll (xs.map PyData.int) (ys.map PyData.int) = decide (xs = ys)
  | [], [] => rfl
  | [], y :: ys => rfl
  | x :: xs, [] => rfl
  | x :: xs, y :: ys => by
    show (PyData.eqv (.int x) (.int y) && PyData.eqvAll (xs.map PyData.int) (ys.map PyData.int)) = _
    have e : PyData.eqv (.int x) (.int y) = decide (x = y) := by by_cases h : x = y <;> simp [PyData.eqv, h]
    rw [e, eqvAll_ints xs ys]
    by_cases h1 : x = y
    · by_cases h2 : xs = ys
      · simp [h1, h2]
      · simp [h1, h2]
    · simp [h1]
theorem dEq_ints (xs ys : List Int) : dEq (.list (xs.map PyData.int)) (.list (ys.map PyData.int)) = some (.bool (decide (xs = ys))) := by
  unfold dEq
  rw [if_pos ⟨shaped_ints xs, shaped_ints ys⟩]
  have e : PyData.eqv (.list (xs.map PyData.int)) (.list (ys.map PyData.int)) = PyData.eqvAll (xs.map PyData.int) (ys.map PyData.int) := rfl
  rw [e, eqvAll_ints]
theorem lev_con {n : Nat} {rs : List Room} {F : List Nat} (hi : In n rs) (hc : ∀ b, b < n → Rch rs 0 b) (x : Lev n rs [] F) : ∀ b, b < n → b ∈ F := fun b hb => by
  have c := hc b hb
  induction c with
  | refl => exact x.ze
  | @down r _ hr ih => exact (x.cl r hr).1 (ih (hi r hr).1) (by simp)
  | @up r _ hr ih => exact (x.cl r hr).2 (ih (hi r hr).2.1) (by simp)
theorem hangs_gen {n : Nat} {rs : List Room} (hi : In n rs) (h2 : 2 ≤ n) (h6 : n ≤ 6) : ∃ b : Bool, F_hangs_together [.int n, roomsD rs] = some (.bool b) ∧ (b = true ↔ ∀ c, c < n → Rch rs 0 c) := by
  obtain ⟨F, e1, x⟩ := F_joined_gen hi h2 h6
  have e2 := dListRange_nat n (by omega)
  obtain ⟨L, eL⟩ : ∃ L, L = (F.map fun (b : Nat) => (b : Int)).mergeSort (fun a b => decide (a ≤ b)) := ⟨_, rfl⟩
  rw [← eL] at e1
  have e3 := dEq_ints L ((List.range n).map fun (b : Nat) => (b : Int))
  rw [← natsL_ints] at e3
  refine ⟨decide (L = (List.range n).map fun (b : Nat) => (b : Int)), ?_, ?_⟩
  · unfold F_hangs_together runF B_hangs_together
    simp only [sSeq, sIf, sNil, sAsg, sRet, sDrop, cV, cAnd, cOr, cNot, cTrue, eOp2, eOp1, eVar, eC, eApp, aCons, aNil, eIf, eAnd, eOr, eNot, eChain, eNeg, asB, dLt, dLe, dGt, dGe, dSub, dAbs, dMin, dMax, dLen, dList, dTuple, mkTup, mkLst, gSet, QL.gTup, gTupF, unTup_t, sPar2, xDat, xOwn, xNil, noScr, sOwn, oLst, iSeq, asSeq_t, asSeq_l, asRooms, iApp, endOf, List.map_cons, List.map_nil, List.length_cons, List.length_nil, List.length_set, List.replicate, List.cons_append, List.nil_append, List.getElem?_cons_zero, List.getElem?_cons_succ, List.getElem?_nil, Option.bind_some, Option.bind_none, Option.map_some, Option.map_none, List.set_cons_zero, List.set_cons_succ, List.set_nil, Bool.false_eq_true, if_false, if_true, ne_eq, not_false_eq_true, not_true_eq_false, and_self, and_true, true_and, Bool.not_true, Bool.not_false, Bool.and_true, Bool.true_and, Nat.reduceAdd, Nat.reduceSub, Nat.reduceLeDiff, Nat.reduceLT, Nat.reduceEqDiff, Nat.lt_irrefl, decide_true, decide_false, isa1, isa2, isa3, isa4, isa5, isa6, isa7, isa8, Option.getD_some, ownL, scrAt, eAppO, yVar, yDat, yNil, isRef, ownIx, List.nodup_cons, List.not_mem_nil, List.nodup_nil, toSl, clr, put, ix0, ix1, fx0, fx1, tup_lst, lst_tup, unPlan, e1, e2, e3]
  · rw [decide_eq_true_iff]
    constructor
    · intro q c hc
      have m1 : (c : Int) ∈ L := by rw [q]; exact List.mem_map.mpr ⟨c, List.mem_range.mpr hc, rfl⟩
      rw [eL, List.mem_mergeSort] at m1
      obtain ⟨b, hb, e⟩ := List.mem_map.mp m1
      have : b = c := by omega
      rw [← this]
      exact x.so b hb
    · intro hc
      rw [eL]
      exact sorted_range x.nd x.lt (lev_con hi hc x)
theorem F_need_number_eq {n i : Nat} {rs : List Room} (h : Plan n rs) (hi : i < rs.length) : F_need_number [planD n rs, .int (i : Nat)] = some .none := by
  have e1 := F_need_plan_eq h
  have e2 := whole_eq (i : Int) 0 ((rs.length : Int) - 1)
  rw [decide_eq_true (by omega), decide_eq_true (by omega)] at e2
  have e3 : dLen [roomsD rs] = some (.int (rs.length : Nat)) := by unfold roomsD; show some (PyData.int ((rs.map roomD).length : Nat)) = _; rw [List.length_map]
  have e4 : dSub (.int (rs.length : Nat)) (.int 1) = some (.int ((rs.length : Int) - 1)) := rfl
  unfold F_need_number runF B_need_number
  simp only [sSeq, sIf, sNil, sAsg, sRet, sDrop, cV, cAnd, cOr, cNot, cTrue, eOp2, eOp1, eVar, eC, eApp, aCons, aNil, eIf, eAnd, eOr, eNot, eChain, eNeg, asB, dLt, dLe, dGt, dGe, dSub, dAbs, dMin, dMax, dLen, dList, dTuple, mkTup, mkLst, gSet, QL.gTup, gTupF, unTup_t, sPar2, xDat, xOwn, xNil, noScr, sOwn, oLst, iSeq, asSeq_t, asSeq_l, asRooms, iApp, endOf, List.map_cons, List.map_nil, List.length_cons, List.length_nil, List.length_set, List.replicate, List.cons_append, List.nil_append, List.getElem?_cons_zero, List.getElem?_cons_succ, List.getElem?_nil, Option.bind_some, Option.bind_none, Option.map_some, Option.map_none, List.set_cons_zero, List.set_cons_succ, List.set_nil, Bool.false_eq_true, if_false, if_true, ne_eq, not_false_eq_true, not_true_eq_false, and_self, and_true, true_and, Bool.not_true, Bool.not_false, Bool.and_true, Bool.true_and, Nat.reduceAdd, Nat.reduceSub, Nat.reduceLeDiff, Nat.reduceLT, Nat.reduceEqDiff, Nat.lt_irrefl, decide_true, decide_false, isa1, isa2, isa3, isa4, isa5, isa6, isa7, isa8, Option.getD_some, ownL, scrAt, eAppO, yVar, yDat, yNil, isRef, ownIx, List.nodup_cons, List.not_mem_nil, List.nodup_nil, toSl, clr, put, ix0, ix1, fx0, fx1, tup_lst, lst_tup, unPlan, roomsD, List.length_map, e1, e2, Bool.and_self]
theorem cut_rooms {i : Nat} {rs : List Room} (hi : i < rs.length) (hl : rs.length ≤ 15) : dSlice (roomsD rs) none (some (i : Int)) = some (roomsD (rs.take i)) ∧ dSlice (roomsD rs) (some ((i + 1 : Nat) : Int)) none = some (roomsD (rs.drop (i + 1))) ∧ dAddT (roomsD (rs.take i)) (roomsD (rs.drop (i + 1))) = some (roomsD (rs.take i ++ rs.drop (i + 1))) := by
  refine ⟨?_, ?_, ?_⟩
  · unfold roomsD
    rw [cut_to (rs.map roomD) i (by rw [List.length_map]; omega), List.map_take]
  · unfold roomsD
    rw [cut_from (rs.map roomD) (i + 1) (by rw [List.length_map]; omega), List.map_drop]
  · unfold roomsD
    rw [dAddT_app _ _ (by rw [List.length_map, List.length_map, List.length_take, List.length_drop]; omega), List.map_append]

end QP
set_option Elab.async false
set_option linter.all false
set_option maxRecDepth 100000
set_option maxHeartbeats 1000000
namespace QP
open PySem PySem.Spec PyProof.Rows L2 QL
/-! ### more rooms, wider rooms: the hall -/
theorem hall_mono {n : Nat} {rs ss : List Room} {u v : Nat → Rat} (hr : In n rs) (hs : In n ss) (hn : 2 ≤ n) (u0 : u 0 = 0) (u1 : u (n - 1) = 1) (hu : Hm n rs u) (v0 : v 0 = 0) (v1 : v (n - 1) = 1) (hv : Hm n ss v) (hle : ∀ t, QP.en rs t t ≤ QP.en ss t t) : - net rs u 0 ≤ - net ss v 0 := by
  have e1 := trial_gap hr hn hu u0 u1 v0 v1
  have e2 := trial_gap hs hn hv v0 v1 v0 v1
  have e3 : QP.en ss (fun c => 1 * v c + (-1) * v c) (fun c => 1 * v c + (-1) * v c) = 0 := by
    rw [show (fun c => 1 * v c + (-1) * v c) = fun _ => (0 : Rat) from by funext c; grind, en_const]
  have e4 := en_nonneg (fun c => 1 * v c + (-1) * u c) hr
  have := hle v
  grind
theorem en_more (t : Nat → Rat) {n : Nat} {l m : List Room} (hm : In n m) : QP.en l t t ≤ QP.en (l ++ m) t t := by
  rw [en_app]
  have := en_nonneg t hm
  grind
theorem en_one (t : Nat → Rat) (r : Room) : QP.en [r] t t = r.2.2 * ((t r.1 - t r.2.1) * (t r.1 - t r.2.1)) := by
  simp only [QP.en]
  grind
theorem en_wider (t : Nat → Rat) {a b : Nat} {p q : Rat} (h : p ≤ q) (l m : List Room) : QP.en (l ++ (a, b, p) :: m) t t ≤ QP.en (l ++ (a, b, q) :: m) t t := by
  rw [show l ++ (a, b, p) :: m = l ++ ([(a, b, p)] ++ m) from rfl, show l ++ (a, b, q) :: m = l ++ ([(a, b, q)] ++ m) from rfl, en_app, en_app, en_app, en_app, en_one, en_one]
  have h1 := sq_nonneg (t a - t b)
  have h2 := Rat.mul_nonneg (show 0 ≤ q - p by grind) h1
  grind
theorem en_without (t : Nat → Rat) {n : Nat} {r : Room} {l m : List Room} (hr : 0 < r.2.2) : QP.en (l ++ m) t t ≤ QP.en (l ++ r :: m) t t := by
  rw [show l ++ r :: m = l ++ ([r] ++ m) from rfl, en_app, en_app, en_app, en_one]
  have h1 := sq_nonneg (t r.1 - t r.2.1)
  have h2 := Rat.mul_nonneg (Rat.le_of_lt hr) h1
  grind
/-! ### marks -/
def mk1 (m : List Nat) (r : Room) : List Nat := m.map fun k => if k = m.getD r.2.1 0 then m.getD r.1 0 else k
def mkAll (n : Nat) (rs : List Room) : List Nat := rs.foldl mk1 (List.range n)
theorem mk1_len (m : List Nat) (r : Room) : (mk1 m r).length = m.length := by unfold mk1; simp
theorem mkAll_app (n : Nat) (rs : List Room) (r : Room) : mkAll n (rs ++ [r]) = mk1 (mkAll n rs) r := by unfold mkAll; rw [List.foldl_append]; rfl
theorem mkF_len : ∀ (rs : List Room) (m : List Nat), (rs.foldl mk1 m).length = m.length
  | [], m => rfl
  | r :: rs, m => by rw [List.foldl_cons, mkF_len rs, mk1_len]
theorem mkAll_len (n : Nat) (rs : List Room) : (mkAll n rs).length = n := by unfold mkAll; rw [mkF_len, List.length_range]
theorem mk1_get {m : List Nat} {r : Room} {x : Nat} (hx : x < m.length) : (mk1 m r).getD x 0 = if m.getD x 0 = m.getD r.2.1 0 then m.getD r.1 0 else m.getD x 0 := by
  unfold mk1
  rw [List.getD_eq_getElem?_getD, List.getElem?_map, List.getD_eq_getElem?_getD (l := m) (i := x), List.getElem?_eq_getElem hx]
  rfl
theorem rch_snoc {rs : List Room} {r : Room} {x y : Nat} : Rch (rs ++ [r]) x y ↔ Rch rs x y ∨ ((Rch rs x r.1 ∨ Rch rs x r.2.1) ∧ (Rch rs y r.1 ∨ Rch rs y r.2.1)) := by
  constructor
  · intro h
    induction h with
    | refl => exact .inl (.refl _)
    | @down s _ hs ih =>
      rcases List.mem_append.mp hs with q | q
      · have step : Rch rs s.2.1 s.1 := (Rch.down (.refl _) q).symm
        rcases ih with ih | ⟨i1, i2⟩
        · exact .inl (.down ih q)
        · exact .inr ⟨i1, i2.imp (fun z => step.trans z) (fun z => step.trans z)⟩
      · have e : s = r := by simpa using q
        subst e
        rcases ih with ih | ⟨i1, i2⟩
        · exact .inr ⟨.inl ih, .inr (.refl _)⟩
        · exact .inr ⟨i1, .inr (.refl _)⟩
    | @up s _ hs ih =>
      rcases List.mem_append.mp hs with q | q
      · have step : Rch rs s.1 s.2.1 := Rch.down (.refl _) q
        rcases ih with ih | ⟨i1, i2⟩
        · exact .inl (.up ih q)
        · exact .inr ⟨i1, i2.imp (fun z => step.trans z) (fun z => step.trans z)⟩
      · have e : s = r := by simpa using q
        subst e
        rcases ih with ih | ⟨i1, i2⟩
        · exact .inr ⟨.inr ih, .inl (.refl _)⟩
        · exact .inr ⟨i1, .inl (.refl _)⟩
  · have mono : ∀ {a b}, Rch rs a b → Rch (rs ++ [r]) a b := fun h => h.mono fun s hs => List.mem_append_left _ hs
    have edge : Rch (rs ++ [r]) r.1 r.2.1 := .down (.refl _) (List.mem_append_right _ (by simp))
    rintro (h | ⟨h1 | h1, h2 | h2⟩)
    · exact mono h
    · exact (mono h1).trans (mono h2).symm
    · exact ((mono h1).trans edge).trans (mono h2).symm
    · exact ((mono h1).trans edge.symm).trans (mono h2).symm
    · exact (mono h1).trans (mono h2).symm
theorem snoc_ind {α : Type} {P : List α → Prop} (h0 : P []) (h1 : ∀ l a, P l → P (l ++ [a])) (l : List α) : P l := by
  have : ∀ m : List α, P m.reverse := fun m => by
    induction m with
    | nil => exact h0
    | cons a m ih => rw [List.reverse_cons]; exact h1 _ _ ih
  simpa using this l.reverse
theorem mk_rch {n : Nat} (rs : List Room) : (∀ r ∈ rs, r.1 < n ∧ r.2.1 < n) → ∀ x y, x < n → y < n → ((mkAll n rs).getD x 0 = (mkAll n rs).getD y 0 ↔ Rch rs x y) := by
  refine snoc_ind (P := fun rs => (∀ r ∈ rs, r.1 < n ∧ r.2.1 < n) → ∀ x y, x < n → y < n → ((mkAll n rs).getD x 0 = (mkAll n rs).getD y 0 ↔ Rch rs x y)) ?_ ?_ rs
  · intro _ x y hx hy
    have e : ∀ z, z < n → (mkAll n []).getD z 0 = z := fun z hz => by
      show (List.range n).getD z 0 = z
      rw [List.getD_eq_getElem?_getD, List.getElem?_range hz]
      rfl
    rw [e x hx, e y hy]
    constructor
    · rintro rfl; exact .refl _
    · intro h
      induction h with
      | refl => rfl
      | down _ hr => exact nomatch hr
      | up _ hr => exact nomatch hr
  · intro rs r ih hi x y hx hy
    have hr := hi r (List.mem_append_right _ (by simp))
    have ih := ih fun s hs => hi s (List.mem_append_left _ hs)
    have hl := mkAll_len n rs
    rw [mkAll_app, mk1_get (by omega), mk1_get (by omega), rch_snoc, ← ih x y hx hy, ← ih x r.1 hx hr.1, ← ih x r.2.1 hx hr.2, ← ih y r.1 hy hr.1, ← ih y r.2.1 hy hr.2]
    generalize (mkAll n rs).getD x 0 = a
    generalize (mkAll n rs).getD y 0 = b
    generalize (mkAll n rs).getD r.1 0 = c
    generalize (mkAll n rs).getD r.2.1 0 = d
    by_cases q1 : a = d <;> by_cases q2 : b = d <;> by_cases q3 : a = c <;> by_cases q4 : b = c <;> simp [q1, q2, q3, q4] <;> omega
theorem intsOf_of : ∀ ns : List Int, intsOf (ns.map PyData.int) = some ns
  | [] => rfl
  | n :: ns => by rw [List.map_cons, intsOf, intsOf_of ns]; rfl
theorem step_mem {acc : List Int} {k x : Int} : x ∈ PyProof.Rows.step_dedup acc k ↔ x ∈ acc ∨ x = k := by
  unfold PyProof.Rows.step_dedup
  split
  · rename_i h
    constructor
    · exact .inl
    · rintro (h1 | rfl)
      · exact h1
      · rw [List.any_eq_true] at h
        obtain ⟨y, hy, e⟩ := h
        have : y = x := by simpa using e
        rw [← this]; exact hy
  · rw [List.mem_append, List.mem_singleton]
theorem fold_mem : ∀ (ns acc : List Int) (x : Int), x ∈ ns.foldl PyProof.Rows.step_dedup acc ↔ x ∈ acc ∨ x ∈ ns
  | [], acc, x => by simp
  | n :: ns, acc, x => by rw [List.foldl_cons, fold_mem ns, step_mem, List.mem_cons, or_assoc]
theorem fold_same {a : Int} : ∀ (ns acc : List Int), (acc = [] ∨ acc = [a]) → (∀ x ∈ ns, x = a) → (ns.foldl PyProof.Rows.step_dedup acc = [] ∨ ns.foldl PyProof.Rows.step_dedup acc = [a])
  | [], acc, h, _ => h
  | n :: ns, acc, h, hn => by
    rw [List.foldl_cons]
    refine fold_same ns _ ?_ fun x hx => hn x (List.mem_cons_of_mem _ hx)
    have e := hn n List.mem_cons_self
    subst e
    rcases h with rfl | rfl
    · exact .inr rfl
    · refine .inr ?_
      unfold PyProof.Rows.step_dedup
      simp
theorem setLen_one {ns : List Int} {a : Int} (ha : a ∈ ns) : (1 < setLen ns ↔ ∃ x ∈ ns, x ≠ a) := by
  constructor
  · intro h
    refine Classical.byContradiction fun q => ?_
    have all : ∀ x ∈ ns, x = a := fun x hx => Classical.byContradiction fun z => q ⟨x, hx, z⟩
    unfold setLen at h
    rcases fold_same ns [] (.inl rfl) all with e | e <;> rw [e] at h <;> simp at h
  · rintro ⟨x, hx, hne⟩
    unfold setLen
    have m1 := (fold_mem ns [] a).mpr (.inr ha)
    have m2 := (fold_mem ns [] x).mpr (.inr hx)
    cases h : ns.foldl PyProof.Rows.step_dedup [] with
    | nil => rw [h] at m1; exact nomatch m1
    | cons y l =>
      cases l with
      | nil =>
        rw [h] at m1 m2
        have e1 : a = y := by simpa using m1
        have e2 : x = y := by simpa using m2
        exact absurd (e2.trans e1.symm) hne
      | cons z l => simp
theorem marks_set {n : Nat} {rs : List Room} (hn : 2 ≤ n) (hi : ∀ r ∈ rs, r.1 < n ∧ r.2.1 < n) : (1 < setLen ((mkAll n rs).map fun (b : Nat) => (b : Int))) ↔ ¬ ∀ c, c < n → Rch rs 0 c := by
  have hl := mkAll_len n rs
  have gt : ∀ z, z < n → (mkAll n rs)[z]? = some ((mkAll n rs).getD z 0) := fun z hz => by
    rw [List.getD_eq_getElem?_getD, List.getElem?_eq_getElem (by omega)]
    rfl
  have m0 : (((mkAll n rs).getD 0 0 : Nat) : Int) ∈ (mkAll n rs).map fun (b : Nat) => (b : Int) := List.mem_map.mpr ⟨_, List.mem_of_getElem? (gt 0 (by omega)), rfl⟩
  rw [setLen_one m0]
  constructor
  · rintro ⟨x, hx, hne⟩ hc
    obtain ⟨b, hb, rfl⟩ := List.mem_map.mp hx
    obtain ⟨i, hi', e⟩ := List.mem_iff_getElem.mp hb
    have := (mk_rch rs hi 0 i (by omega) (by omega)).mpr (hc i (by omega))
    refine hne ?_
    have e2 := gt i (by omega)
    rw [List.getElem?_eq_getElem hi', e] at e2
    have e3 : b = (mkAll n rs).getD i 0 := Option.some.inj e2
    rw [e3, ← this]
  · intro hc
    refine Classical.byContradiction fun q => hc fun c hlt => ?_
    refine (mk_rch rs hi 0 c (by omega) hlt).mp ?_
    have hm : (((mkAll n rs).getD c 0 : Nat) : Int) ∈ (mkAll n rs).map fun (b : Nat) => (b : Int) := List.mem_map.mpr ⟨_, List.mem_of_getElem? (gt c hlt), rfl⟩
    have : (((mkAll n rs).getD c 0 : Nat) : Int) = (((mkAll n rs).getD 0 0 : Nat) : Int) := Classical.byContradiction fun z => q ⟨_, hm, z⟩
    omega
theorem F_wider_eq {n i : Nat} {rs l m : List Room} {a b : Nat} {p q : Rat} (h : Plan n rs) (hi : i < rs.length) (e : rs = l ++ (a, b, p) :: m) (hl : l.length = i) (hq : 0 < q) : F_wider [planD n rs, .int (i : Nat), fr q] = some (planD n (l ++ (a, b, q) :: m)) := by
  have e3 := F_need_number_eq h hi
  have hlen : l.length + m.length + 1 ≤ 15 := by have := h.few; rw [e] at this; simp at this; omega
  have c1 : dSlice (roomsD rs) none (some (i : Int)) = some (roomsD l) := by
    rw [(cut_rooms hi h.few).1, e, ← hl, List.take_left]
  have c2 : dSlice (roomsD rs) (some ((i + 1 : Nat) : Int)) none = some (roomsD m) := by
    rw [(cut_rooms hi h.few).2.1, e, ← hl, show l ++ (a, b, p) :: m = (l ++ [(a, b, p)]) ++ m from by simp, show l.length + 1 = (l ++ [(a, b, p)]).length from by simp, List.drop_left]
  have ad : dAdd (.int (i : Nat)) (.int 1) = some (.int ((i + 1 : Nat) : Int)) := rfl
  have two : (2 : Nat) ≤ 1000000 := by decide
  have ix : dIx (roomsD rs) (.int (i : Nat)) = some (roomD (a, b, p)) := by
    show atI (rs.map roomD) (i : Int) = _
    refine atI_nat (j := i) ?_
    rw [e, ← hl, List.getElem?_map, List.getElem?_append_right (Nat.le_refl _)]
    simp
  have pr := prop_true hq
  have a1 : dAddT (roomsD l) (.tuple [roomD (a, b, q)]) = some (roomsD (l ++ [(a, b, q)])) := by
    unfold roomsD
    rw [dAddT_app _ _ (by simp; omega), List.map_append]
    rfl
  have a2 : dAddT (roomsD (l ++ [(a, b, q)])) (roomsD m) = some (roomsD (l ++ (a, b, q) :: m)) := by
    unfold roomsD
    rw [dAddT_app _ _ (by simp; omega), ← List.map_append]
    simp
  have rd : PyData.tuple [.int (a : Nat), .int (b : Nat), fr q] = roomD (a, b, q) := rfl
  have pd : PyData.tuple [.int (n : Nat), roomsD (l ++ (a, b, q) :: m)] = planD n (l ++ (a, b, q) :: m) := rfl
  have i0 : dIx (planD n rs) (.int 0) = some (.int (n : Nat)) := rfl
  have i1 : dIx (planD n rs) (.int 1) = some (roomsD rs) := rfl
  have ut : unTup (roomD (a, b, p)) = some [.int (a : Nat), .int (b : Nat), fr p] := rfl
  unfold F_wider runF B_wider
  simp only [sSeq, sIf, sNil, sAsg, sRet, sDrop, cV, cAnd, cOr, cNot, cTrue, eOp2, eOp1, eVar, eC, eApp, aCons, aNil, eIf, eAnd, eOr, eNot, eChain, eNeg, asB, dLt, dLe, dGt, dGe, dSub, dAbs, dMin, dMax, dLen, dList, dTuple, mkTup, mkLst, gSet, QL.gTup, gTupF, unTup_t, sPar2, xDat, xOwn, xNil, noScr, sOwn, oLst, iSeq, asSeq_t, asSeq_l, asRooms, iApp, endOf, List.map_cons, List.map_nil, List.length_cons, List.length_nil, List.length_set, List.replicate, List.cons_append, List.nil_append, List.getElem?_cons_zero, List.getElem?_cons_succ, List.getElem?_nil, Option.bind_some, Option.bind_none, Option.map_some, Option.map_none, List.set_cons_zero, List.set_cons_succ, List.set_nil, Bool.false_eq_true, if_false, if_true, ne_eq, not_false_eq_true, not_true_eq_false, and_self, and_true, true_and, Bool.not_true, Bool.not_false, Bool.and_true, Bool.true_and, Nat.reduceAdd, Nat.reduceSub, Nat.reduceLeDiff, Nat.reduceLT, Nat.reduceEqDiff, Nat.lt_irrefl, decide_true, decide_false, isa1, isa2, isa3, isa4, isa5, isa6, isa7, isa8, Option.getD_some, ownL, scrAt, eAppO, yVar, yDat, yNil, isRef, ownIx, List.nodup_cons, List.not_mem_nil, List.nodup_nil, toSl, clr, put, ix0, ix1, fx0, fx1, tup_lst, lst_tup, unPlan, e3, eSlice, pNone, pSome, c1, c2, ad, pr, i0, i1, ix, two, rd, a1, a2, pd, ut]

end QP
set_option Elab.async false
set_option linter.all false
set_option maxRecDepth 100000
set_option maxHeartbeats 1000000
namespace QP
open PySem PySem.Spec PyProof.Rows L2 QL
def st1 : MS := (sOwn 1 (oLst aNil))
def st2 : MS := (sAsg (eAppO F__law_some_plan (yVar 0 (yVar 1 (yDat (eC (.int 5)) (yDat (eC (.int 5)) yNil))))) (gSet 2))
def st3 : MS := (sAsg (eVar 2) (gTup [(gSet 11), (gSet 12)]))
def st4 : MS := (sPar2 13 14 (xDat (eAppO F__law_draw (yVar 0 (yVar 1 (yDat (eVar 11) yNil)))) (xDat (eApp F_hall (aCons (eVar 2) aNil)) xNil)))
def st5 : MS := (sAsg (eOp2 dAdd (eOp2 dAdd (eVar 13) (eC (.int 1))) (eAppO F__law_draw (yVar 0 (yVar 1 (yDat (eOp2 dSub (eVar 11) (eC (.int 1))) yNil))))) (gSet 3))
def st6 : MS := (sAsg (eApp mkTup (aCons (eVar 13) (aCons (eIf (cV (eOp2 dGe (eVar 3) (eVar 11))) (eOp2 dSub (eVar 3) (eVar 11)) (eVar 3)) (aCons (eAppO F__law_some_proportion (yVar 0 (yVar 1 yNil))) aNil)))) (gSet 4))
def st7 : MS := (sAsg (eApp F_with_room (aCons (eVar 2) (aCons (eVar 4) aNil))) (gSet 5))
def st8 : MS := (sIf (cOr (cV (eOp2 dNe (eVar 5) (eApp mkTup (aCons (eVar 11) (aCons (eOp2 dAdd (eVar 12) (eApp mkTup (aCons (eVar 4) aNil))) aNil))))) (cOr (cV (eApp F__law_less (aCons (eApp F_hall (aCons (eVar 5) aNil)) (aCons (eVar 14) aNil)))) (cV (eOp2 dNe (eApp F_without_room (aCons (eVar 5) (aCons (eApp dLen (aCons (eVar 12) aNil)) aNil))) (eVar 2))))) (sRet (eC (.bool false))) sNil)
def st9 : MS := (sPar2 15 16 (xDat (eAppO F__law_draw (yVar 0 (yVar 1 (yDat (eApp dLen (aCons (eVar 12) aNil)) yNil)))) (xDat (eAppO F__law_some_proportion (yVar 0 (yVar 1 yNil))) xNil)))
def st10 : MS := (sAsg (eOp2 dIx (eVar 12) (eVar 15)) (gTup [(gSet 17), (gSet 18), (gSet 19)]))
def st11 : MS := (sAsg (eApp F_wider (aCons (eVar 2) (aCons (eVar 15) (aCons (eVar 16) aNil)))) (gSet 6))
def st12 : MS := (sAsg (eOp2 dAddT (eOp2 dAddT (eSlice (eVar 12) pNone (pSome (eVar 15))) (eApp mkTup (aCons (eApp mkTup (aCons (eVar 17) (aCons (eVar 18) (aCons (eVar 16) aNil)))) aNil))) (eSlice (eVar 12) (pSome (eOp2 dAdd (eVar 15) (eC (.int 1)))) pNone)) (gSet 7))
def st13 : MS := (sIf (cOr (cV (eOp2 dNe (eVar 6) (eApp mkTup (aCons (eVar 11) (aCons (eVar 7) aNil))))) (cV (eOp2 dNe (eApp F_wider (aCons (eVar 6) (aCons (eVar 15) (aCons (eVar 19) aNil)))) (eVar 2)))) (sRet (eC (.bool false))) sNil)
def st14 : MS := (sIf (cAnd (cV (eApp F__law_less (aCons (eVar 19) (aCons (eVar 16) aNil)))) (cV (eApp F__law_less (aCons (eApp F_hall (aCons (eVar 6) aNil)) (aCons (eVar 14) aNil))))) (sRet (eC (.bool false))) sNil)
def st15 : MS := (sIf (cAnd (cV (eApp F__law_less (aCons (eVar 16) (aCons (eVar 19) aNil)))) (cV (eApp F__law_less (aCons (eVar 14) (aCons (eApp F_hall (aCons (eVar 6) aNil)) aNil))))) (sRet (eC (.bool false))) sNil)
def st16 : MS := (sAsg (eOp2 dAddT (eSlice (eVar 12) pNone (pSome (eVar 15))) (eSlice (eVar 12) (pSome (eOp2 dAdd (eVar 15) (eC (.int 1)))) pNone)) (gSet 8))
def st17 : MS := (sAsg (eApp dListRange (aCons (eVar 11) aNil)) (gSet 9))
def st18 : MS := (sFor (iSeq (eVar 8)) (gTup [(gSet 20), (gSet 21), (gSet 22)]) (sAsg (eLc [23] (iSeq (eVar 9)) (gSet 23) cTrue (eIf (cV (eOp2 dEq (eVar 23) (eOp2 dIx (eVar 9) (eVar 21)))) (eOp2 dIx (eVar 9) (eVar 20)) (eVar 23))) (gSet 9)))
def st19 : MS := (sAsg (eApp F__law_ask (aCons (eVar 2) (aCons (eVar 15) aNil))) (gSet 10))
def st20 : MS := (sIf (cV (eOp2 dGt (eOp1 dLenSet (eVar 9)) (eC (.int 1)))) (sRet (eOp2 dEq (eVar 10) (eApp mkTup (aCons (eC (.str "refused")) (aCons (eC (.int 6)) aNil))))) sNil)
def st21 : MS := (sRet (eAnd (eOp2 dEq (eVar 10) (eApp mkTup (aCons (eVar 11) (aCons (eVar 8) aNil)))) (eNot (eApp F__law_less (aCons (eVar 14) (aCons (eApp F_hall (aCons (eVar 10) aNil)) aNil))))))
theorem lawB : B_law = (sSeq st1 (sSeq st2 (sSeq st3 (sSeq st4 (sSeq st5 (sSeq st6 (sSeq st7 (sSeq st8 (sSeq st9 (sSeq st10 (sSeq st11 (sSeq st12 (sSeq st13 (sSeq st14 (sSeq st15 (sSeq st16 (sSeq st17 (sSeq st18 (sSeq st19 (sSeq st20 st21)))))))))))))))))))) := rfl

theorem dAdd_ii (a b : Int) : dAdd (.int a) (.int b) = some (.int (a + b)) := rfl
def markB : MS := (sAsg (eLc [23] (iSeq (eVar 9)) (gSet 23) cTrue (eIf (cV (eOp2 dEq (eVar 23) (eOp2 dIx (eVar 9) (eVar 21)))) (eOp2 dIx (eVar 9) (eVar 20)) (eVar 23))) (gSet 9))
theorem mark_body {n : Nat} {m : List Nat} {r : Room} (hn : n ≤ 100) (hm : m.length = n) (h1 : r.1 < n) (h2 : r.2.1 < n) (s0 s1 s2 s3 s4 s5 s6 s7 s8 s10 s11 s12 s13 s14 s15 s16 s17 s18 s19 : Sl) :
    markB [s0, s1, s2, s3, s4, s5, s6, s7, s8, .dat (.list (natsL m)), s10, s11, s12, s13, s14, s15, s16, s17, s18, s19, .dat (.int (r.1 : Nat)), .dat (.int (r.2.1 : Nat)), .dat (fr r.2.2), .un] = some (.nx, [s0, s1, s2, s3, s4, s5, s6, s7, s8, .dat (.list (natsL (mk1 m r))), s10, s11, s12, s13, s14, s15, s16, s17, s18, s19, .dat (.int (r.1 : Nat)), .dat (.int (r.2.1 : Nat)), .dat (fr r.2.2), .un]) := by
  have x1 := dIx_nats m r.1 (by omega)
  have x2 := dIx_nats m r.2.1 (by omega)
  have key := eLcT (vs := [23]) (ρ := [s0, s1, s2, s3, s4, s5, s6, s7, s8, .dat (.list (natsL m)), s10, s11, s12, s13, s14, s15, s16, s17, s18, s19, .dat (.int (r.1 : Nat)), .dat (.int (r.2.1 : Nat)), .dat (fr r.2.2), .un]) (it := iSeq (eVar 9)) (tg := gSet 23) (m := eIf (cV (eOp2 dEq (eVar 23) (eOp2 dIx (eVar 9) (eVar 21)))) (eOp2 dIx (eVar 9) (eVar 20)) (eVar 23))
    (fun k : Nat => .int (k : Nat)) (fun k : Nat => .int ((if k = m.getD r.2.1 0 then m.getD r.1 0 else k : Nat) : Int)) (fun k => [s0, s1, s2, s3, s4, s5, s6, s7, s8, .dat (.list (natsL m)), s10, s11, s12, s13, s14, s15, s16, s17, s18, s19, .dat (.int (r.1 : Nat)), .dat (.int (r.2.1 : Nat)), .dat (fr r.2.2), .dat (.int (k : Nat))]) m rfl (by omega)
    (fun k hk => by
      refine ⟨rfl, ?_, rfl⟩
      have e := dEq_nn k (m.getD r.2.1 0)
      have x1' : dIx (.list (natsL m)) (.int (r.1 : Nat)) = some (.int (m.getD r.1 0 : Nat)) := x1
      have x2' : dIx (.list (natsL m)) (.int (r.2.1 : Nat)) = some (.int (m.getD r.2.1 0 : Nat)) := x2
      by_cases q : k = m.getD r.2.1 0
      · rw [decide_eq_true q] at e
        rw [if_pos q]
        simp only [sSeq, sIf, sNil, sAsg, sRet, sDrop, cV, cAnd, cOr, cNot, cTrue, eOp2, eOp1, eVar, eC, eApp, aCons, aNil, eIf, eAnd, eOr, eNot, eChain, eNeg, asB, dLt, dLe, dGt, dGe, dSub, dAbs, dMin, dMax, dLen, dList, dTuple, mkTup, mkLst, gSet, QL.gTup, gTupF, unTup_t, sPar2, xDat, xOwn, xNil, noScr, sOwn, oLst, iSeq, asSeq_t, asSeq_l, asRooms, iApp, endOf, List.map_cons, List.map_nil, List.length_cons, List.length_nil, List.length_set, List.replicate, List.cons_append, List.nil_append, List.getElem?_cons_zero, List.getElem?_cons_succ, List.getElem?_nil, Option.bind_some, Option.bind_none, Option.map_some, Option.map_none, List.set_cons_zero, List.set_cons_succ, List.set_nil, Bool.false_eq_true, if_false, if_true, ne_eq, not_false_eq_true, not_true_eq_false, and_self, and_true, true_and, Bool.not_true, Bool.not_false, Bool.and_true, Bool.true_and, Nat.reduceAdd, Nat.reduceSub, Nat.reduceLeDiff, Nat.reduceLT, Nat.reduceEqDiff, Nat.lt_irrefl, decide_true, decide_false, isa1, isa2, isa3, isa4, isa5, isa6, isa7, isa8, Option.getD_some, ownL, scrAt, eAppO, yVar, yDat, yNil, isRef, ownIx, List.nodup_cons, List.not_mem_nil, List.nodup_nil, toSl, clr, put, ix0, ix1, fx0, fx1, tup_lst, lst_tup, unPlan, x1', x2', e]
      · rw [decide_eq_false q] at e
        rw [if_neg q]
        simp only [sSeq, sIf, sNil, sAsg, sRet, sDrop, cV, cAnd, cOr, cNot, cTrue, eOp2, eOp1, eVar, eC, eApp, aCons, aNil, eIf, eAnd, eOr, eNot, eChain, eNeg, asB, dLt, dLe, dGt, dGe, dSub, dAbs, dMin, dMax, dLen, dList, dTuple, mkTup, mkLst, gSet, QL.gTup, gTupF, unTup_t, sPar2, xDat, xOwn, xNil, noScr, sOwn, oLst, iSeq, asSeq_t, asSeq_l, asRooms, iApp, endOf, List.map_cons, List.map_nil, List.length_cons, List.length_nil, List.length_set, List.replicate, List.cons_append, List.nil_append, List.getElem?_cons_zero, List.getElem?_cons_succ, List.getElem?_nil, Option.bind_some, Option.bind_none, Option.map_some, Option.map_none, List.set_cons_zero, List.set_cons_succ, List.set_nil, Bool.false_eq_true, if_false, if_true, ne_eq, not_false_eq_true, not_true_eq_false, and_self, and_true, true_and, Bool.not_true, Bool.not_false, Bool.and_true, Bool.true_and, Nat.reduceAdd, Nat.reduceSub, Nat.reduceLeDiff, Nat.reduceLT, Nat.reduceEqDiff, Nat.lt_irrefl, decide_true, decide_false, isa1, isa2, isa3, isa4, isa5, isa6, isa7, isa8, Option.getD_some, ownL, scrAt, eAppO, yVar, yDat, yNil, isRef, ownIx, List.nodup_cons, List.not_mem_nil, List.nodup_nil, toSl, clr, put, ix0, ix1, fx0, fx1, tup_lst, lst_tup, unPlan, x1', x2', e])
    rfl
  unfold markB
  simp only [sAsg, key, Option.bind_some, gSet]
  unfold mk1 natsL
  rw [List.map_map]
  rfl
theorem mark_loop {n : Nat} (hn : n ≤ 100) {rs : List Room} (hi : ∀ r ∈ rs, r.1 < n ∧ r.2.1 < n) (s0 s1 s2 s3 s4 s5 s6 s7 s8 s10 s11 s12 s13 s14 s15 s16 s17 s18 s19 : Sl) : ∃ s20 s21 s22, QL.forM (gTup [(gSet 20), (gSet 21), (gSet 22)]) markB (rs.map roomD) [s0, s1, s2, s3, s4, s5, s6, s7, s8, .dat (.list (natsL (List.range n))), s10, s11, s12, s13, s14, s15, s16, s17, s18, s19, .un, .un, .un, .un] = some (.nx, [s0, s1, s2, s3, s4, s5, s6, s7, s8, .dat (.list (natsL (mkAll n rs))), s10, s11, s12, s13, s14, s15, s16, s17, s18, s19, s20, s21, s22, .un]) := by
  obtain ⟨ρ', e, s20, s21, s22, rfl⟩ := forM_inv (g := gTup [(gSet 20), (gSet 21), (gSet 22)]) (b := markB) roomD rs
    (fun i ρ => ∃ s20 s21 s22, ρ = [s0, s1, s2, s3, s4, s5, s6, s7, s8, .dat (.list (natsL (mkAll n (rs.take i)))), s10, s11, s12, s13, s14, s15, s16, s17, s18, s19, s20, s21, s22, .un])
    [s0, s1, s2, s3, s4, s5, s6, s7, s8, .dat (.list (natsL (List.range n))), s10, s11, s12, s13, s14, s15, s16, s17, s18, s19, .un, .un, .un, .un]
    (fun i r ρ hx hP => by
      obtain ⟨s20, s21, s22, rfl⟩ := hP
      have hr := hi r (List.mem_of_getElem? hx)
      have e := mark_body (m := mkAll n (rs.take i)) hn (mkAll_len n _) hr.1 hr.2 s0 s1 s2 s3 s4 s5 s6 s7 s8 s10 s11 s12 s13 s14 s15 s16 s17 s18 s19
      rw [← mkAll_app, ← take_get hx] at e
      exact ⟨_, _, rfl, e, _, _, _, rfl⟩)
    ⟨.un, .un, .un, rfl⟩
  rw [List.take_length] at e
  exact ⟨s20, s21, s22, e⟩
theorem without_g {n i : Nat} {rs : List Room} (h : Plan n rs) (hi : i < rs.length) : ∃ b : Bool, (b = true ↔ ∀ c, c < n → Rch (rs.take i ++ rs.drop (i + 1)) 0 c) ∧ F__law_ask [planD n rs, .int (i : Nat)] = some (if b = true then planD n (rs.take i ++ rs.drop (i + 1)) else .tuple [.str "refused", .int 6]) ∧ (b = true → F_without_room [planD n rs, .int (i : Nat)] = some (planD n (rs.take i ++ rs.drop (i + 1)))) := by
  have hin : In n (rs.take i ++ rs.drop (i + 1)) := fun r hr => h.inn r (by
    rcases List.mem_append.mp hr with q | q
    · exact List.mem_of_mem_take q
    · exact List.mem_of_mem_drop q)
  obtain ⟨b, e1, e2⟩ := hangs_gen hin h.two h.six
  obtain ⟨c1, c2, c3⟩ := cut_rooms hi h.few
  have e3 := F_need_number_eq h hi
  have ad : dAdd (.int (i : Nat)) (.int 1) = some (.int ((i + 1 : Nat) : Int)) := rfl
  have two : (2 : Nat) ≤ 1000000 := by decide
  have pd : PyData.tuple [.int (n : Nat), roomsD (rs.take i ++ rs.drop (i + 1))] = planD n (rs.take i ++ rs.drop (i + 1)) := rfl
  refine ⟨b, e2, ?_, fun hb => ?_⟩
  · cases b with
    | true =>
      have x1 : G_without_room [planD n rs, .int (i : Nat)] = some (.ok (planD n (rs.take i ++ rs.drop (i + 1)))) := by
        unfold G_without_room runX BX_without_room
        simp only [sSeq, sIf, sNil, sAsg, sRet, sDrop, cV, cAnd, cOr, cNot, cTrue, eOp2, eOp1, eVar, eC, eApp, aCons, aNil, eIf, eAnd, eOr, eNot, eChain, eNeg, asB, dLt, dLe, dGt, dGe, dSub, dAbs, dMin, dMax, dLen, dList, dTuple, mkTup, mkLst, gSet, QL.gTup, gTupF, unTup_t, sPar2, xDat, xOwn, xNil, noScr, sOwn, oLst, iSeq, asSeq_t, asSeq_l, asRooms, iApp, endOf, List.map_cons, List.map_nil, List.length_cons, List.length_nil, List.length_set, List.replicate, List.cons_append, List.nil_append, List.getElem?_cons_zero, List.getElem?_cons_succ, List.getElem?_nil, Option.bind_some, Option.bind_none, Option.map_some, Option.map_none, List.set_cons_zero, List.set_cons_succ, List.set_nil, Bool.false_eq_true, if_false, if_true, ne_eq, not_false_eq_true, not_true_eq_false, and_self, and_true, true_and, Bool.not_true, Bool.not_false, Bool.and_true, Bool.true_and, Nat.reduceAdd, Nat.reduceSub, Nat.reduceLeDiff, Nat.reduceLT, Nat.reduceEqDiff, Nat.lt_irrefl, decide_true, decide_false, isa1, isa2, isa3, isa4, isa5, isa6, isa7, isa8, Option.getD_some, ownL, scrAt, eAppO, yVar, yDat, yNil, isRef, ownIx, List.nodup_cons, List.not_mem_nil, List.nodup_nil, toSl, clr, put, ix0, ix1, fx0, fx1, tup_lst, lst_tup, unPlan, xCons, xLift, xIfS, xRaise, e3, eSlice, pNone, pSome, c1, c2, c3, ad, e1, two, endX, pd]
      unfold F__law_ask runF B__law_ask
      simp only [sSeq, sIf, sNil, sAsg, sRet, sDrop, cV, cAnd, cOr, cNot, cTrue, eOp2, eOp1, eVar, eC, eApp, aCons, aNil, eIf, eAnd, eOr, eNot, eChain, eNeg, asB, dLt, dLe, dGt, dGe, dSub, dAbs, dMin, dMax, dLen, dList, dTuple, mkTup, mkLst, gSet, QL.gTup, gTupF, unTup_t, sPar2, xDat, xOwn, xNil, noScr, sOwn, oLst, iSeq, asSeq_t, asSeq_l, asRooms, iApp, endOf, List.map_cons, List.map_nil, List.length_cons, List.length_nil, List.length_set, List.replicate, List.cons_append, List.nil_append, List.getElem?_cons_zero, List.getElem?_cons_succ, List.getElem?_nil, Option.bind_some, Option.bind_none, Option.map_some, Option.map_none, List.set_cons_zero, List.set_cons_succ, List.set_nil, Bool.false_eq_true, if_false, if_true, ne_eq, not_false_eq_true, not_true_eq_false, and_self, and_true, true_and, Bool.not_true, Bool.not_false, Bool.and_true, Bool.true_and, Nat.reduceAdd, Nat.reduceSub, Nat.reduceLeDiff, Nat.reduceLT, Nat.reduceEqDiff, Nat.lt_irrefl, decide_true, decide_false, isa1, isa2, isa3, isa4, isa5, isa6, isa7, isa8, Option.getD_some, ownL, scrAt, eAppO, yVar, yDat, yNil, isRef, ownIx, List.nodup_cons, List.not_mem_nil, List.nodup_nil, toSl, clr, put, ix0, ix1, fx0, fx1, tup_lst, lst_tup, unPlan, sTryW, xRet, xApp, x1]
    | false =>
      have x1 : G_without_room [planD n rs, .int (i : Nat)] = some (.er "Parted") := by
        unfold G_without_room runX BX_without_room
        simp only [sSeq, sIf, sNil, sAsg, sRet, sDrop, cV, cAnd, cOr, cNot, cTrue, eOp2, eOp1, eVar, eC, eApp, aCons, aNil, eIf, eAnd, eOr, eNot, eChain, eNeg, asB, dLt, dLe, dGt, dGe, dSub, dAbs, dMin, dMax, dLen, dList, dTuple, mkTup, mkLst, gSet, QL.gTup, gTupF, unTup_t, sPar2, xDat, xOwn, xNil, noScr, sOwn, oLst, iSeq, asSeq_t, asSeq_l, asRooms, iApp, endOf, List.map_cons, List.map_nil, List.length_cons, List.length_nil, List.length_set, List.replicate, List.cons_append, List.nil_append, List.getElem?_cons_zero, List.getElem?_cons_succ, List.getElem?_nil, Option.bind_some, Option.bind_none, Option.map_some, Option.map_none, List.set_cons_zero, List.set_cons_succ, List.set_nil, Bool.false_eq_true, if_false, if_true, ne_eq, not_false_eq_true, not_true_eq_false, and_self, and_true, true_and, Bool.not_true, Bool.not_false, Bool.and_true, Bool.true_and, Nat.reduceAdd, Nat.reduceSub, Nat.reduceLeDiff, Nat.reduceLT, Nat.reduceEqDiff, Nat.lt_irrefl, decide_true, decide_false, isa1, isa2, isa3, isa4, isa5, isa6, isa7, isa8, Option.getD_some, ownL, scrAt, eAppO, yVar, yDat, yNil, isRef, ownIx, List.nodup_cons, List.not_mem_nil, List.nodup_nil, toSl, clr, put, ix0, ix1, fx0, fx1, tup_lst, lst_tup, unPlan, xCons, xLift, xIfS, xRaise, e3, eSlice, pNone, pSome, c1, c2, c3, ad, e1, two, endX, pd]
      have w : whT "Parted" = some (.tuple [.str "refused", .int 6]) := by unfold whT; rw [if_pos rfl]
      unfold F__law_ask runF B__law_ask
      simp only [sSeq, sIf, sNil, sAsg, sRet, sDrop, cV, cAnd, cOr, cNot, cTrue, eOp2, eOp1, eVar, eC, eApp, aCons, aNil, eIf, eAnd, eOr, eNot, eChain, eNeg, asB, dLt, dLe, dGt, dGe, dSub, dAbs, dMin, dMax, dLen, dList, dTuple, mkTup, mkLst, gSet, QL.gTup, gTupF, unTup_t, sPar2, xDat, xOwn, xNil, noScr, sOwn, oLst, iSeq, asSeq_t, asSeq_l, asRooms, iApp, endOf, List.map_cons, List.map_nil, List.length_cons, List.length_nil, List.length_set, List.replicate, List.cons_append, List.nil_append, List.getElem?_cons_zero, List.getElem?_cons_succ, List.getElem?_nil, Option.bind_some, Option.bind_none, Option.map_some, Option.map_none, List.set_cons_zero, List.set_cons_succ, List.set_nil, Bool.false_eq_true, if_false, if_true, ne_eq, not_false_eq_true, not_true_eq_false, and_self, and_true, true_and, Bool.not_true, Bool.not_false, Bool.and_true, Bool.true_and, Nat.reduceAdd, Nat.reduceSub, Nat.reduceLeDiff, Nat.reduceLT, Nat.reduceEqDiff, Nat.lt_irrefl, decide_true, decide_false, isa1, isa2, isa3, isa4, isa5, isa6, isa7, isa8, Option.getD_some, ownL, scrAt, eAppO, yVar, yDat, yNil, isRef, ownIx, List.nodup_cons, List.not_mem_nil, List.nodup_nil, toSl, clr, put, ix0, ix1, fx0, fx1, tup_lst, lst_tup, unPlan, sTryW, xRet, xApp, x1, w]
  · subst hb
    unfold F_without_room runF B_without_room
    simp only [sSeq, sIf, sNil, sAsg, sRet, sDrop, cV, cAnd, cOr, cNot, cTrue, eOp2, eOp1, eVar, eC, eApp, aCons, aNil, eIf, eAnd, eOr, eNot, eChain, eNeg, asB, dLt, dLe, dGt, dGe, dSub, dAbs, dMin, dMax, dLen, dList, dTuple, mkTup, mkLst, gSet, QL.gTup, gTupF, unTup_t, sPar2, xDat, xOwn, xNil, noScr, sOwn, oLst, iSeq, asSeq_t, asSeq_l, asRooms, iApp, endOf, List.map_cons, List.map_nil, List.length_cons, List.length_nil, List.length_set, List.replicate, List.cons_append, List.nil_append, List.getElem?_cons_zero, List.getElem?_cons_succ, List.getElem?_nil, Option.bind_some, Option.bind_none, Option.map_some, Option.map_none, List.set_cons_zero, List.set_cons_succ, List.set_nil, Bool.false_eq_true, if_false, if_true, ne_eq, not_false_eq_true, not_true_eq_false, and_self, and_true, true_and, Bool.not_true, Bool.not_false, Bool.and_true, Bool.true_and, Nat.reduceAdd, Nat.reduceSub, Nat.reduceLeDiff, Nat.reduceLT, Nat.reduceEqDiff, Nat.lt_irrefl, decide_true, decide_false, isa1, isa2, isa3, isa4, isa5, isa6, isa7, isa8, Option.getD_some, ownL, scrAt, eAppO, yVar, yDat, yNil, isRef, ownIx, List.nodup_cons, List.not_mem_nil, List.nodup_nil, toSl, clr, put, ix0, ix1, fx0, fx1, tup_lst, lst_tup, unPlan, e3, eSlice, pNone, pSome, c1, c2, c3, ad, e1, two, pd]
theorem Drawn.cut {n i : Nat} {rs : List Room} (h : Drawn n rs) (hi : i < rs.length) (hc : ∀ c, c < n → Rch (rs.take i ++ rs.drop (i + 1)) 0 c) : Drawn n (rs.take i ++ rs.drop (i + 1)) where
  plan := {
    two := h.plan.two
    six := h.plan.six
    one := by
      refine Classical.byContradiction fun q => ?_
      have e : rs.take i ++ rs.drop (i + 1) = [] := by
        cases e : rs.take i ++ rs.drop (i + 1) with
        | nil => rfl
        | cons a l => rw [e] at q; simp at q
      have h2 := h.plan.two
      have c := hc 1 (by omega)
      rw [e] at c
      have : (0 : Rat) = 1 := Rch.eq (rs := []) (u := fun x => if x = 0 then 0 else 1) (fun r hr => absurd hr (by simp)) c
      exact absurd this (by decide)
    few := by
      have := h.plan.few
      rw [List.length_append, List.length_take, List.length_drop]
      omega
    inn := fun r hr => h.plan.inn r (by
      rcases List.mem_append.mp hr with q | q
      · exact List.mem_of_mem_take q
      · exact List.mem_of_mem_drop q)
    con := hc }
  ok := fun r hr => h.ok r (by
    rcases List.mem_append.mp hr with q | q
    · exact List.mem_of_mem_take q
    · exact List.mem_of_mem_drop q)
theorem Drawn.swap {n a b : Nat} {p q : Rat} {l m : List Room} (h : Drawn n (l ++ (a, b, p) :: m)) (hq : okP q) : Drawn n (l ++ (a, b, q) :: m) where
  plan := {
    two := h.plan.two
    six := h.plan.six
    one := by rw [List.length_append, List.length_cons]; omega
    few := by have := h.plan.few; simp at this ⊢; exact this
    inn := fun r hr => by
      rcases List.mem_append.mp hr with z | z
      · exact h.plan.inn r (List.mem_append_left _ z)
      · rcases List.mem_cons.mp z with rfl | z
        · have := h.plan.inn (a, b, p) (List.mem_append_right _ List.mem_cons_self)
          exact ⟨this.1, this.2.1, this.2.2.1, hq.1⟩
        · exact h.plan.inn r (List.mem_append_right _ (List.mem_cons_of_mem _ z))
    con := fun c hc => by
      have key : ∀ {x y}, Rch (l ++ (a, b, p) :: m) x y → Rch (l ++ (a, b, q) :: m) x y := by
        intro x y z
        induction z with
        | refl => exact .refl _
        | @down r _ hr ih =>
          rcases List.mem_append.mp hr with z | z
          · exact .down ih (List.mem_append_left _ z)
          · rcases List.mem_cons.mp z with rfl | z
            · exact Rch.down (r := (a, b, q)) ih (List.mem_append_right _ List.mem_cons_self)
            · exact .down ih (List.mem_append_right _ (List.mem_cons_of_mem _ z))
        | @up r _ hr ih =>
          rcases List.mem_append.mp hr with z | z
          · exact .up ih (List.mem_append_left _ z)
          · rcases List.mem_cons.mp z with rfl | z
            · exact Rch.up (r := (a, b, q)) ih (List.mem_append_right _ List.mem_cons_self)
            · exact .up ih (List.mem_append_right _ (List.mem_cons_of_mem _ z))
      exact key (h.plan.con c hc) }
  ok := fun r hr => by
    rcases List.mem_append.mp hr with z | z
    · exact h.ok r (List.mem_append_left _ z)
    · rcases List.mem_cons.mp z with rfl | z
      · exact hq
      · exact h.ok r (List.mem_append_right _ (List.mem_cons_of_mem _ z))
theorem law_true (ns : List Int) (h63 : ns.length ≤ 63) : ∃ ss, F_law [.scr ns] = some (.bool true, ss) := by
  obtain ⟨n, rs, t1, hP, hD, hn6, hl, ht1⟩ := plan_ok ns h63 [] (by decide) 5 5 (by decide) (by decide) (by decide)
  have hP : F__law_some_plan [.scr ns, .own (.lst []), .dat (.int 5), .dat (.int 5)] = some (planD n rs, [.scr ns, .own (.lst t1), .dat (.int 5), .dat (.int 5)]) := hP
  have hn2 := hD.plan.two
  have hl1 := hD.plan.one
  have ht1' : t1.length ≤ 1000 := by simpa using ht1
  obtain ⟨a, hd1, a1, a2⟩ := draw_ok ns h63 t1 (by omega) (n : Int) (by omega)
  obtain ⟨a, rfl⟩ : ∃ x : Nat, a = (x : Int) := ⟨a.toNat, by omega⟩
  have ha : a < n := by omega
  obtain ⟨c, hd2, c1, c2⟩ := draw_ok ns h63 (t1 ++ [.int 0]) (by simp; omega) ((n : Int) - 1) (by omega)
  obtain ⟨p, t2, hpr, lt2, hp⟩ := dr_prop ns h63 (t1 ++ [.int 0] ++ [.int 0]) (by simp; omega)
  obtain ⟨b, hb, hab, hw⟩ := wrap_ok ha c1 c2
  have hrl : rs.length < 15 := by omega
  have hD' := hD.more (r := (a, b, p)) hrl ⟨ha, hb, hab, hp⟩
  obtain ⟨u, eu, eh, ⟨u0, u1, hmu⟩, cu⟩ := D_levels hD
  obtain ⟨v, ev, eh', ⟨v0, v1, hmv⟩, cv⟩ := D_levels hD'
  have eha := F_hall_eq' hD.plan eh
  have eha' := F_hall_eq' hD'.plan eh'
  have zh := (net_sz hD cu 0).neg
  have zh' := (net_sz hD' cv 0).neg
  have ewr := F_with_room_eq (r := (a, b, p)) hD.plan hrl ⟨ha, hb, hab, hp.1⟩
  have mono1 := hall_mono hD.plan.inn hD'.plan.inn hn2 u0 u1 hmu v0 v1 hmv fun t => en_more t (n := n) (fun r hr => hD'.plan.inn r (List.mem_append_right _ hr))
  have less1 := F__law_less_eq zh' zh (by decide)
  rw [decide_eq_false (by grind)] at less1
  -- without it again
  have hlen' : (rs ++ [(a, b, p)]).length = rs.length + 1 := by simp
  obtain ⟨b1, q1, _, q3⟩ := without_g hD'.plan (i := rs.length) (by omega)
  have e4 : (rs ++ [(a, b, p)]).take rs.length ++ (rs ++ [(a, b, p)]).drop (rs.length + 1) = rs := by
    rw [List.take_left, List.drop_of_length_le (by omega), List.append_nil]
  rw [e4] at q1 q3
  have q3 := q3 (q1.mpr hD.plan.con)
  -- the room that is changed
  obtain ⟨k, hd3, k1, k2⟩ := draw_ok ns h63 t2 (by simp at lt2; omega) ((rs.length : Nat) : Int) (by omega)
  obtain ⟨k, rfl⟩ : ∃ x : Nat, k = (x : Int) := ⟨k.toNat, by omega⟩
  have hk : k < rs.length := by omega
  obtain ⟨q, t3, hpr2, lt3, hq⟩ := dr_prop ns h63 (t2 ++ [.int 0]) (by simp at lt2 ⊢; omega)
  obtain ⟨⟨x, y, o⟩, er⟩ : ∃ r, rs[k]? = some r := ⟨rs[k], List.getElem?_eq_getElem hk⟩
  have sp : rs = rs.take k ++ (x, y, o) :: rs.drop (k + 1) := by
    obtain ⟨z, e0⟩ := List.getElem?_eq_some_iff.mp er
    rw [← e0, ← List.drop_eq_getElem_cons, List.take_append_drop]
  have hlk : (rs.take k).length = k := by rw [List.length_take]; omega
  have ho : okP o := hD.ok (x, y, o) (List.mem_of_getElem? er)
  have ew1 := F_wider_eq hD.plan hk sp hlk hq.1
  have hDs := hD
  rw [sp] at hDs
  have hDq := hDs.swap hq
  have hkq : k < (rs.take k ++ (x, y, q) :: rs.drop (k + 1)).length := by rw [List.length_append, hlk, List.length_cons]; omega
  have ew2 := F_wider_eq hDq.plan hkq rfl hlk ho.1
  rw [← sp] at ew2
  obtain ⟨w, ew, eh2, ⟨w0, w1, hmw⟩, cw⟩ := D_levels hDq
  have eha2 := F_hall_eq' hDq.plan eh2
  have zh2 := (net_sz hDq cw 0).neg
  have l1 := F__law_less_eq ho.2.2 hq.2.2 (by decide)
  have l2 := F__law_less_eq zh2 zh (by decide)
  have l3 := F__law_less_eq hq.2.2 ho.2.2 (by decide)
  have l4 := F__law_less_eq zh zh2 (by decide)
  have up : o < q → ¬ (- net (rs.take k ++ (x, y, q) :: rs.drop (k + 1)) w 0 < - net rs u 0) := fun z => by
    have := hall_mono hD.plan.inn hDq.plan.inn hn2 u0 u1 hmu w0 w1 hmw fun t => by
      have z2 := en_wider t (a := x) (b := y) (Rat.le_of_lt z) (rs.take k) (rs.drop (k + 1))
      rw [← sp] at z2
      exact z2
    grind
  have dn : q < o → ¬ (- net rs u 0 < - net (rs.take k ++ (x, y, q) :: rs.drop (k + 1)) w 0) := fun z => by
    have := hall_mono hDq.plan.inn hD.plan.inn hn2 w0 w1 hmw u0 u1 hmu fun t => by
      have z2 := en_wider t (a := x) (b := y) (Rat.le_of_lt z) (rs.take k) (rs.drop (k + 1))
      rw [← sp] at z2
      exact z2
    grind
  -- the rest
  obtain ⟨cc1, cc2, cc3⟩ := cut_rooms hk hD.plan.few
  obtain ⟨bb, g1, g2, _⟩ := without_g hD.plan hk
  have hin : ∀ r ∈ rs.take k ++ rs.drop (k + 1), r.1 < n ∧ r.2.1 < n := fun r hr => by
    have := hD.plan.inn r (by
      rcases List.mem_append.mp hr with z | z
      · exact List.mem_of_mem_take z
      · exact List.mem_of_mem_drop z)
    exact ⟨this.1, this.2.1⟩
  have ms := marks_set hn2 hin
  have ls : dLenSet (.list (natsL (mkAll n (rs.take k ++ rs.drop (k + 1))))) = some (.int (setLen ((mkAll n (rs.take k ++ rs.drop (k + 1))).map fun (b : Nat) => (b : Int)) : Nat)) := by
    unfold dLenSet
    have := mkAll_len n (rs.take k ++ rs.drop (k + 1))
    simp only [natsL_ints, intsOf_of, Option.bind_some, List.length_map]
    rw [if_pos (by omega)]
  obtain ⟨HN, eHN⟩ : ∃ z, z = - net rs u 0 := ⟨_, rfl⟩
  obtain ⟨H2, eH2⟩ : ∃ z, z = - net (rs.take k ++ (x, y, q) :: rs.drop (k + 1)) w 0 := ⟨_, rfl⟩
  rw [← eHN] at eha less1 l2 l4 up dn zh
  rw [← eH2] at eha2 l2 l4 up dn
  have two : (2 : Nat) ≤ 1000000 := by decide
  have rd : PyData.tuple [.int (a : Nat), .int (b : Nat), fr p] = roomD (a, b, p) := rfl
  have rq : PyData.tuple [.int (x : Nat), .int (y : Nat), fr q] = roomD (x, y, q) := rfl
  have aR : dAdd (roomsD rs) (.tuple [roomD (a, b, p)]) = some (roomsD (rs ++ [(a, b, p)])) := by
    unfold roomsD
    rw [dAdd_tup (by intro z; rw [List.map_eq_nil_iff] at z; rw [z] at hl1; exact absurd hl1 (by decide)) (by simp) (by simp; omega), List.map_append]
    rfl
  have pd : ∀ l, PyData.tuple [.int (n : Nat), roomsD l] = planD n l := fun l => rfl
  have ne1 := dNe_same (shaped_plan n (rs ++ [(a, b, p)]))
  have ne2 := dNe_same (shaped_plan n rs)
  have ne3 := dNe_same (shaped_plan n (rs.take k ++ (x, y, q) :: rs.drop (k + 1)))
  have lenR : dLen [roomsD rs] = some (.int (rs.length : Nat)) := by unfold roomsD; show some (PyData.int ((rs.map roomD).length : Nat)) = _; rw [List.length_map]
  have ixk : dIx (roomsD rs) (.int (k : Nat)) = some (roomD (x, y, o)) := by
    show atI (rs.map roomD) (k : Int) = _
    refine atI_nat (j := k) ?_
    rw [List.getElem?_map, er]
    rfl
  have ut : unTup (roomD (x, y, o)) = some [.int (x : Nat), .int (y : Nat), fr o] := rfl
  have utp : unTup (planD n rs) = some [.int (n : Nat), roomsD rs] := rfl
  have ad : dAdd (.int (k : Nat)) (.int 1) = some (.int ((k + 1 : Nat) : Int)) := rfl
  have a1 : dAddT (roomsD (rs.take k)) (.tuple [roomD (x, y, q)]) = some (roomsD (rs.take k ++ [(x, y, q)])) := by
    unfold roomsD
    rw [dAddT_app _ _ (by simp; omega), List.map_append]
    rfl
  have a2 : dAddT (roomsD (rs.take k ++ [(x, y, q)])) (roomsD (rs.drop (k + 1))) = some (roomsD (rs.take k ++ (x, y, q) :: rs.drop (k + 1))) := by
    unfold roomsD
    rw [dAddT_app _ _ (by simp; omega), ← List.map_append]
    simp
  obtain ⟨RQ, eRQ⟩ : ∃ z, z = rs.take k ++ (x, y, q) :: rs.drop (k + 1) := ⟨_, rfl⟩
  obtain ⟨RR, eRR⟩ : ∃ z, z = rs.take k ++ rs.drop (k + 1) := ⟨_, rfl⟩
  rw [← eRQ] at ew1 ew2 eha2 ne3 a2
  rw [← eRR] at cc3 g1 g2 hin ms ls
  have rgn := dListRange_nat n (by omega)
  obtain ⟨OT, eOT⟩ : ∃ z, z = (a : Int) + 1 + c := ⟨_, rfl⟩
  have g0 : gTupF [gSet 11, gSet 12] [.int (n : Nat), roomsD rs] = fun ρ => some ((ρ.set 11 (.dat (.int (n : Nat)))).set 12 (.dat (roomsD rs))) := rfl
  have w3 : decide ((n : Int) ≤ (b : Int)) = false := decide_eq_false (by omega)
  have stage1 : ∀ kk : MS, (sSeq st1 (sSeq st2 (sSeq st3 (sSeq st4 (sSeq st5 (sSeq st6 (sSeq st7 (sSeq st8 kk)))))))) [.scr ns, .un, .un, .un, .un, .un, .un, .un, .un, .un, .un, .un, .un, .un, .un, .un, .un, .un, .un, .un, .un, .un, .un, .un] = kk [.scr ns, .own (.lst t2), .dat (planD n rs), .dat (.int OT), .dat (roomD (a, b, p)), .dat (planD n (rs ++ [(a, b, p)])), .un, .un, .un, .un, .un, .dat (.int (n : Nat)), .dat (roomsD rs), .dat (.int (a : Nat)), .dat (fr HN), .un, .un, .un, .un, .un, .un, .un, .un, .un] := by
    as_aux_lemma =>
      intro kk
      subst eOT
      rcases hw with ⟨w1, w2⟩ | ⟨w1, w2⟩
      · simp only [st1, st2, st3, st4, st5, st6, st7, st8, sSeq, sIf, sNil, sAsg, sRet, sDrop, cV, cAnd, cOr, cNot, cTrue, eOp2, eOp1, eVar, eC, eApp, aCons, aNil, eIf, eAnd, eOr, eNot, eChain, eNeg, asB, dLt, dLe, dGt, dGe, dSub, dAbs, dMin, dMax, dList, dTuple, mkTup, mkLst, gSet, QL.gTup, gTupF, unTup_t, sPar2, xDat, xOwn, xNil, noScr, sOwn, oLst, iSeq, asSeq_t, asSeq_l, asRooms, iApp, endOf, List.map_cons, List.map_nil, List.length_cons, List.length_nil, List.length_set, List.replicate, List.cons_append, List.nil_append, List.getElem?_cons_zero, List.getElem?_cons_succ, List.getElem?_nil, Option.bind_some, Option.bind_none, Option.map_some, Option.map_none, List.set_cons_zero, List.set_cons_succ, List.set_nil, Bool.false_eq_true, if_false, if_true, ne_eq, not_false_eq_true, not_true_eq_false, and_self, and_true, true_and, Bool.not_true, Bool.not_false, Bool.and_true, Bool.true_and, Nat.reduceAdd, Nat.reduceSub, Nat.reduceLeDiff, Nat.reduceLT, Nat.reduceEqDiff, Nat.lt_irrefl, decide_true, decide_false, isa1, isa2, isa3, isa4, isa5, isa6, isa7, isa8, Option.getD_some, ownL, scrAt, eAppO, yVar, yDat, yNil, isRef, ownIx, List.nodup_cons, List.not_mem_nil, List.nodup_nil, toSl, clr, put, ix0, ix1, fx0, fx1, tup_lst, lst_tup, unPlan, hP, hd1, hd2, dAdd_ii, w1, w2, w3, hpr, rd, utp, aR, pd, eha, eha', ewr, ne1, less1, lenR, q3, ne2, two]
      · simp only [st1, st2, st3, st4, st5, st6, st7, st8, sSeq, sIf, sNil, sAsg, sRet, sDrop, cV, cAnd, cOr, cNot, cTrue, eOp2, eOp1, eVar, eC, eApp, aCons, aNil, eIf, eAnd, eOr, eNot, eChain, eNeg, asB, dLt, dLe, dGt, dGe, dSub, dAbs, dMin, dMax, dList, dTuple, mkTup, mkLst, gSet, QL.gTup, gTupF, unTup_t, sPar2, xDat, xOwn, xNil, noScr, sOwn, oLst, iSeq, asSeq_t, asSeq_l, asRooms, iApp, endOf, List.map_cons, List.map_nil, List.length_cons, List.length_nil, List.length_set, List.replicate, List.cons_append, List.nil_append, List.getElem?_cons_zero, List.getElem?_cons_succ, List.getElem?_nil, Option.bind_some, Option.bind_none, Option.map_some, Option.map_none, List.set_cons_zero, List.set_cons_succ, List.set_nil, Bool.false_eq_true, if_false, if_true, ne_eq, not_false_eq_true, not_true_eq_false, and_self, and_true, true_and, Bool.not_true, Bool.not_false, Bool.and_true, Bool.true_and, Nat.reduceAdd, Nat.reduceSub, Nat.reduceLeDiff, Nat.reduceLT, Nat.reduceEqDiff, Nat.lt_irrefl, decide_true, decide_false, isa1, isa2, isa3, isa4, isa5, isa6, isa7, isa8, Option.getD_some, ownL, scrAt, eAppO, yVar, yDat, yNil, isRef, ownIx, List.nodup_cons, List.not_mem_nil, List.nodup_nil, toSl, clr, put, ix0, ix1, fx0, fx1, tup_lst, lst_tup, unPlan, hP, hd1, hd2, dAdd_ii, w1, w2, w3, hpr, rd, utp, aR, pd, eha, eha', ewr, ne1, less1, lenR, q3, ne2, two]
  have stage2 : ∀ kk : MS, (sSeq st9 (sSeq st10 (sSeq st11 (sSeq st12 (sSeq st13 kk))))) [.scr ns, .own (.lst t2), .dat (planD n rs), .dat (.int OT), .dat (roomD (a, b, p)), .dat (planD n (rs ++ [(a, b, p)])), .un, .un, .un, .un, .un, .dat (.int (n : Nat)), .dat (roomsD rs), .dat (.int (a : Nat)), .dat (fr HN), .un, .un, .un, .un, .un, .un, .un, .un, .un] = kk [.scr ns, .own (.lst t3), .dat (planD n rs), .dat (.int OT), .dat (roomD (a, b, p)), .dat (planD n (rs ++ [(a, b, p)])), .dat (planD n RQ), .dat (roomsD RQ), .un, .un, .un, .dat (.int (n : Nat)), .dat (roomsD rs), .dat (.int (a : Nat)), .dat (fr HN), .dat (.int (k : Nat)), .dat (fr q), .dat (.int (x : Nat)), .dat (.int (y : Nat)), .dat (fr o), .un, .un, .un, .un] := by
    as_aux_lemma =>
      intro kk
      simp only [st9, st10, st11, st12, st13, sSeq, sIf, sNil, sAsg, sRet, sDrop, cV, cAnd, cOr, cNot, cTrue, eOp2, eOp1, eVar, eC, eApp, aCons, aNil, eIf, eAnd, eOr, eNot, eChain, eNeg, asB, dLt, dLe, dGt, dGe, dSub, dAbs, dMin, dMax, dList, dTuple, mkTup, mkLst, gSet, QL.gTup, gTupF, unTup_t, sPar2, xDat, xOwn, xNil, noScr, sOwn, oLst, iSeq, asSeq_t, asSeq_l, asRooms, iApp, endOf, List.map_cons, List.map_nil, List.length_cons, List.length_nil, List.length_set, List.replicate, List.cons_append, List.nil_append, List.getElem?_cons_zero, List.getElem?_cons_succ, List.getElem?_nil, Option.bind_some, Option.bind_none, Option.map_some, Option.map_none, List.set_cons_zero, List.set_cons_succ, List.set_nil, Bool.false_eq_true, if_false, if_true, ne_eq, not_false_eq_true, not_true_eq_false, and_self, and_true, true_and, Bool.not_true, Bool.not_false, Bool.and_true, Bool.true_and, Nat.reduceAdd, Nat.reduceSub, Nat.reduceLeDiff, Nat.reduceLT, Nat.reduceEqDiff, Nat.lt_irrefl, decide_true, decide_false, isa1, isa2, isa3, isa4, isa5, isa6, isa7, isa8, Option.getD_some, ownL, scrAt, eAppO, yVar, yDat, yNil, isRef, ownIx, List.nodup_cons, List.not_mem_nil, List.nodup_nil, toSl, clr, put, ix0, ix1, fx0, fx1, tup_lst, lst_tup, unPlan, lenR, hd3, hpr2, ixk, ut, ew1, eSlice, pNone, pSome, cc1, cc2, ad, rq, a1, a2, pd, ne3, ew2, ne2, two]
  have stage3 : ∀ kk : MS, (sSeq st14 (sSeq st15 kk)) [.scr ns, .own (.lst t3), .dat (planD n rs), .dat (.int OT), .dat (roomD (a, b, p)), .dat (planD n (rs ++ [(a, b, p)])), .dat (planD n RQ), .dat (roomsD RQ), .un, .un, .un, .dat (.int (n : Nat)), .dat (roomsD rs), .dat (.int (a : Nat)), .dat (fr HN), .dat (.int (k : Nat)), .dat (fr q), .dat (.int (x : Nat)), .dat (.int (y : Nat)), .dat (fr o), .un, .un, .un, .un] = kk [.scr ns, .own (.lst t3), .dat (planD n rs), .dat (.int OT), .dat (roomD (a, b, p)), .dat (planD n (rs ++ [(a, b, p)])), .dat (planD n RQ), .dat (roomsD RQ), .un, .un, .un, .dat (.int (n : Nat)), .dat (roomsD rs), .dat (.int (a : Nat)), .dat (fr HN), .dat (.int (k : Nat)), .dat (fr q), .dat (.int (x : Nat)), .dat (.int (y : Nat)), .dat (fr o), .un, .un, .un, .un] := by
    as_aux_lemma =>
      intro kk
      by_cases z1 : o < q
      · rw [decide_eq_true z1] at l1
        rw [decide_eq_false (up z1)] at l2
        rw [decide_eq_false (by grind)] at l3
        simp only [st14, st15, sSeq, sIf, sNil, sAsg, sRet, sDrop, cV, cAnd, cOr, cNot, cTrue, eOp2, eOp1, eVar, eC, eApp, aCons, aNil, eIf, eAnd, eOr, eNot, eChain, eNeg, asB, dLt, dLe, dGt, dGe, dSub, dAbs, dMin, dMax, dList, dTuple, mkTup, mkLst, gSet, QL.gTup, gTupF, unTup_t, sPar2, xDat, xOwn, xNil, noScr, sOwn, oLst, iSeq, asSeq_t, asSeq_l, asRooms, iApp, endOf, List.map_cons, List.map_nil, List.length_cons, List.length_nil, List.length_set, List.replicate, List.cons_append, List.nil_append, List.getElem?_cons_zero, List.getElem?_cons_succ, List.getElem?_nil, Option.bind_some, Option.bind_none, Option.map_some, Option.map_none, List.set_cons_zero, List.set_cons_succ, List.set_nil, Bool.false_eq_true, if_false, if_true, ne_eq, not_false_eq_true, not_true_eq_false, and_self, and_true, true_and, Bool.not_true, Bool.not_false, Bool.and_true, Bool.true_and, Nat.reduceAdd, Nat.reduceSub, Nat.reduceLeDiff, Nat.reduceLT, Nat.reduceEqDiff, Nat.lt_irrefl, decide_true, decide_false, isa1, isa2, isa3, isa4, isa5, isa6, isa7, isa8, Option.getD_some, ownL, scrAt, eAppO, yVar, yDat, yNil, isRef, ownIx, List.nodup_cons, List.not_mem_nil, List.nodup_nil, toSl, clr, put, ix0, ix1, fx0, fx1, tup_lst, lst_tup, unPlan, l1, eha2, l2, l3]
      · rw [decide_eq_false z1] at l1
        by_cases z2 : q < o
        · rw [decide_eq_true z2] at l3
          rw [decide_eq_false (dn z2)] at l4
          simp only [st14, st15, sSeq, sIf, sNil, sAsg, sRet, sDrop, cV, cAnd, cOr, cNot, cTrue, eOp2, eOp1, eVar, eC, eApp, aCons, aNil, eIf, eAnd, eOr, eNot, eChain, eNeg, asB, dLt, dLe, dGt, dGe, dSub, dAbs, dMin, dMax, dList, dTuple, mkTup, mkLst, gSet, QL.gTup, gTupF, unTup_t, sPar2, xDat, xOwn, xNil, noScr, sOwn, oLst, iSeq, asSeq_t, asSeq_l, asRooms, iApp, endOf, List.map_cons, List.map_nil, List.length_cons, List.length_nil, List.length_set, List.replicate, List.cons_append, List.nil_append, List.getElem?_cons_zero, List.getElem?_cons_succ, List.getElem?_nil, Option.bind_some, Option.bind_none, Option.map_some, Option.map_none, List.set_cons_zero, List.set_cons_succ, List.set_nil, Bool.false_eq_true, if_false, if_true, ne_eq, not_false_eq_true, not_true_eq_false, and_self, and_true, true_and, Bool.not_true, Bool.not_false, Bool.and_true, Bool.true_and, Nat.reduceAdd, Nat.reduceSub, Nat.reduceLeDiff, Nat.reduceLT, Nat.reduceEqDiff, Nat.lt_irrefl, decide_true, decide_false, isa1, isa2, isa3, isa4, isa5, isa6, isa7, isa8, Option.getD_some, ownL, scrAt, eAppO, yVar, yDat, yNil, isRef, ownIx, List.nodup_cons, List.not_mem_nil, List.nodup_nil, toSl, clr, put, ix0, ix1, fx0, fx1, tup_lst, lst_tup, unPlan, l1, eha2, l4, l3]
        · rw [decide_eq_false z2] at l3
          simp only [st14, st15, sSeq, sIf, sNil, sAsg, sRet, sDrop, cV, cAnd, cOr, cNot, cTrue, eOp2, eOp1, eVar, eC, eApp, aCons, aNil, eIf, eAnd, eOr, eNot, eChain, eNeg, asB, dLt, dLe, dGt, dGe, dSub, dAbs, dMin, dMax, dList, dTuple, mkTup, mkLst, gSet, QL.gTup, gTupF, unTup_t, sPar2, xDat, xOwn, xNil, noScr, sOwn, oLst, iSeq, asSeq_t, asSeq_l, asRooms, iApp, endOf, List.map_cons, List.map_nil, List.length_cons, List.length_nil, List.length_set, List.replicate, List.cons_append, List.nil_append, List.getElem?_cons_zero, List.getElem?_cons_succ, List.getElem?_nil, Option.bind_some, Option.bind_none, Option.map_some, Option.map_none, List.set_cons_zero, List.set_cons_succ, List.set_nil, Bool.false_eq_true, if_false, if_true, ne_eq, not_false_eq_true, not_true_eq_false, and_self, and_true, true_and, Bool.not_true, Bool.not_false, Bool.and_true, Bool.true_and, Nat.reduceAdd, Nat.reduceSub, Nat.reduceLeDiff, Nat.reduceLT, Nat.reduceEqDiff, Nat.lt_irrefl, decide_true, decide_false, isa1, isa2, isa3, isa4, isa5, isa6, isa7, isa8, Option.getD_some, ownL, scrAt, eAppO, yVar, yDat, yNil, isRef, ownIx, List.nodup_cons, List.not_mem_nil, List.nodup_nil, toSl, clr, put, ix0, ix1, fx0, fx1, tup_lst, lst_tup, unPlan, l1, l3]
  obtain ⟨s20, s21, s22, eml⟩ := mark_loop (n := n) (by omega) hin (.scr ns) (.own (.lst t3)) (.dat (planD n rs)) (.dat (.int OT)) (.dat (roomD (a, b, p))) (.dat (planD n (rs ++ [(a, b, p)]))) (.dat (planD n RQ)) (.dat (roomsD RQ)) (.dat (roomsD RR)) .un (.dat (.int (n : Nat))) (.dat (roomsD rs)) (.dat (.int (a : Nat))) (.dat (fr HN)) (.dat (.int (k : Nat))) (.dat (fr q)) (.dat (.int (x : Nat))) (.dat (.int (y : Nat))) (.dat (fr o))
  have asR : asSeq (roomsD RR) = some (RR.map roomD) := rfl
  have stage4 : ∀ kk : MS, (sSeq st16 (sSeq st17 (sSeq st18 kk))) [.scr ns, .own (.lst t3), .dat (planD n rs), .dat (.int OT), .dat (roomD (a, b, p)), .dat (planD n (rs ++ [(a, b, p)])), .dat (planD n RQ), .dat (roomsD RQ), .un, .un, .un, .dat (.int (n : Nat)), .dat (roomsD rs), .dat (.int (a : Nat)), .dat (fr HN), .dat (.int (k : Nat)), .dat (fr q), .dat (.int (x : Nat)), .dat (.int (y : Nat)), .dat (fr o), .un, .un, .un, .un] = kk [.scr ns, .own (.lst t3), .dat (planD n rs), .dat (.int OT), .dat (roomD (a, b, p)), .dat (planD n (rs ++ [(a, b, p)])), .dat (planD n RQ), .dat (roomsD RQ), .dat (roomsD RR), .dat (.list (natsL (mkAll n RR))), .un, .dat (.int (n : Nat)), .dat (roomsD rs), .dat (.int (a : Nat)), .dat (fr HN), .dat (.int (k : Nat)), .dat (fr q), .dat (.int (x : Nat)), .dat (.int (y : Nat)), .dat (fr o), s20, s21, s22, .un] := by
    as_aux_lemma =>
      intro kk
      unfold markB at eml
      simp only [st16, st17, st18, sSeq, sIf, sNil, sAsg, sRet, sDrop, cV, cAnd, cOr, cNot, cTrue, eOp2, eOp1, eVar, eC, eApp, aCons, aNil, eIf, eAnd, eOr, eNot, eChain, eNeg, asB, dLt, dLe, dGt, dGe, dSub, dAbs, dMin, dMax, dList, dTuple, mkTup, mkLst, gSet, QL.gTup, gTupF, unTup_t, sPar2, xDat, xOwn, xNil, noScr, sOwn, oLst, iSeq, asSeq_t, asSeq_l, asRooms, iApp, endOf, List.map_cons, List.map_nil, List.length_cons, List.length_nil, List.length_set, List.replicate, List.cons_append, List.nil_append, List.getElem?_cons_zero, List.getElem?_cons_succ, List.getElem?_nil, Option.bind_some, Option.bind_none, Option.map_some, Option.map_none, List.set_cons_zero, List.set_cons_succ, List.set_nil, Bool.false_eq_true, if_false, if_true, ne_eq, not_false_eq_true, not_true_eq_false, and_self, and_true, true_and, Bool.not_true, Bool.not_false, Bool.and_true, Bool.true_and, Nat.reduceAdd, Nat.reduceSub, Nat.reduceLeDiff, Nat.reduceLT, Nat.reduceEqDiff, Nat.lt_irrefl, decide_true, decide_false, isa1, isa2, isa3, isa4, isa5, isa6, isa7, isa8, Option.getD_some, ownL, scrAt, eAppO, yVar, yDat, yNil, isRef, ownIx, List.nodup_cons, List.not_mem_nil, List.nodup_nil, toSl, clr, put, ix0, ix1, fx0, fx1, tup_lst, lst_tup, unPlan, eSlice, pNone, pSome, cc1, cc2, cc3, ad, rgn, sFor, asR, eml]
  have stage5 : ∃ ρ', (sSeq st19 (sSeq st20 st21)) [.scr ns, .own (.lst t3), .dat (planD n rs), .dat (.int OT), .dat (roomD (a, b, p)), .dat (planD n (rs ++ [(a, b, p)])), .dat (planD n RQ), .dat (roomsD RQ), .dat (roomsD RR), .dat (.list (natsL (mkAll n RR))), .un, .dat (.int (n : Nat)), .dat (roomsD rs), .dat (.int (a : Nat)), .dat (fr HN), .dat (.int (k : Nat)), .dat (fr q), .dat (.int (x : Nat)), .dat (.int (y : Nat)), .dat (fr o), s20, s21, s22, .un] = some (.rt (.bool true), .scr ns :: ρ') := by
    as_aux_lemma =>
      cases hbb : bb with
      | true =>
        have hc := g1.mp hbb
        have hs : ¬ 1 < setLen ((mkAll n RR).map fun (b : Nat) => (b : Int)) := fun z => ms.mp z hc
        rw [hbb, if_pos rfl] at g2
        have hDr := hD.cut hk (by rw [← eRR]; exact hc)
        rw [← eRR] at hDr
        obtain ⟨m, em, eh3, ⟨m0, m1, hmm⟩, cm⟩ := D_levels hDr
        have eha3 := F_hall_eq' hDr.plan eh3
        have zh3 := (net_sz hDr cm 0).neg
        have l5 := F__law_less_eq zh zh3 (by decide)
        have mono3 := hall_mono hDr.plan.inn hD.plan.inn hn2 m0 m1 hmm u0 u1 hmu fun t => by
          have z2 := en_without (n := n) t (r := (x, y, o)) (l := rs.take k) (m := rs.drop (k + 1)) ho.1
          rw [← sp, ← eRR] at z2
          exact z2
        rw [decide_eq_false (by rw [eHN]; grind)] at l5
        have gt : decide ((1 : Int) < (setLen ((mkAll n RR).map fun (b : Nat) => (b : Int)) : Nat)) = false := decide_eq_false (by omega)
        have eq5 := dEq_same (shaped_plan n RR)
        simp only [st19, st20, st21, sSeq, sIf, sNil, sAsg, sRet, sDrop, cV, cAnd, cOr, cNot, cTrue, eOp2, eOp1, eVar, eC, eApp, aCons, aNil, eIf, eAnd, eOr, eNot, eChain, eNeg, asB, dLt, dLe, dGt, dGe, dSub, dAbs, dMin, dMax, dList, dTuple, mkTup, mkLst, gSet, QL.gTup, gTupF, unTup_t, sPar2, xDat, xOwn, xNil, noScr, sOwn, oLst, iSeq, asSeq_t, asSeq_l, asRooms, iApp, endOf, List.map_cons, List.map_nil, List.length_cons, List.length_nil, List.length_set, List.replicate, List.cons_append, List.nil_append, List.getElem?_cons_zero, List.getElem?_cons_succ, List.getElem?_nil, Option.bind_some, Option.bind_none, Option.map_some, Option.map_none, List.set_cons_zero, List.set_cons_succ, List.set_nil, Bool.false_eq_true, if_false, if_true, ne_eq, not_false_eq_true, not_true_eq_false, and_self, and_true, true_and, Bool.not_true, Bool.not_false, Bool.and_true, Bool.true_and, Nat.reduceAdd, Nat.reduceSub, Nat.reduceLeDiff, Nat.reduceLT, Nat.reduceEqDiff, Nat.lt_irrefl, decide_true, decide_false, isa1, isa2, isa3, isa4, isa5, isa6, isa7, isa8, Option.getD_some, ownL, scrAt, eAppO, yVar, yDat, yNil, isRef, ownIx, List.nodup_cons, List.not_mem_nil, List.nodup_nil, toSl, clr, put, ix0, ix1, fx0, fx1, tup_lst, lst_tup, unPlan, g2, ls, gt, pd, eq5, eha3, l5, two]
        exact ⟨_, rfl⟩
      | false =>
        have hs : 1 < setLen ((mkAll n RR).map fun (b : Nat) => (b : Int)) := ms.mpr fun z => by rw [g1.mpr z] at hbb; cases hbb
        rw [hbb, if_neg Bool.false_ne_true] at g2
        have gt : decide ((1 : Int) < (setLen ((mkAll n RR).map fun (b : Nat) => (b : Int)) : Nat)) = true := decide_eq_true (by omega)
        have eq5 := dEq_same (d := .tuple [.str "refused", .int 6]) (by decide +kernel)
        simp only [st19, st20, st21, sSeq, sIf, sNil, sAsg, sRet, sDrop, cV, cAnd, cOr, cNot, cTrue, eOp2, eOp1, eVar, eC, eApp, aCons, aNil, eIf, eAnd, eOr, eNot, eChain, eNeg, asB, dLt, dLe, dGt, dGe, dSub, dAbs, dMin, dMax, dList, dTuple, mkTup, mkLst, gSet, QL.gTup, gTupF, unTup_t, sPar2, xDat, xOwn, xNil, noScr, sOwn, oLst, iSeq, asSeq_t, asSeq_l, asRooms, iApp, endOf, List.map_cons, List.map_nil, List.length_cons, List.length_nil, List.length_set, List.replicate, List.cons_append, List.nil_append, List.getElem?_cons_zero, List.getElem?_cons_succ, List.getElem?_nil, Option.bind_some, Option.bind_none, Option.map_some, Option.map_none, List.set_cons_zero, List.set_cons_succ, List.set_nil, Bool.false_eq_true, if_false, if_true, ne_eq, not_false_eq_true, not_true_eq_false, and_self, and_true, true_and, Bool.not_true, Bool.not_false, Bool.and_true, Bool.true_and, Nat.reduceAdd, Nat.reduceSub, Nat.reduceLeDiff, Nat.reduceLT, Nat.reduceEqDiff, Nat.lt_irrefl, decide_true, decide_false, isa1, isa2, isa3, isa4, isa5, isa6, isa7, isa8, Option.getD_some, ownL, scrAt, eAppO, yVar, yDat, yNil, isRef, ownIx, List.nodup_cons, List.not_mem_nil, List.nodup_nil, toSl, clr, put, ix0, ix1, fx0, fx1, tup_lst, lst_tup, unPlan, g2, ls, gt, pd, eq5, two]
        exact ⟨_, rfl⟩
  obtain ⟨ρ', stage5⟩ := stage5
  refine ⟨[.scr ns], ?_⟩
  unfold F_law runO
  rw [lawB]
  simp only [List.length_cons, List.length_nil, Nat.reduceAdd, Nat.reduceSub, Nat.reduceLeDiff, ownsIn, and_self, if_true, List.replicate, List.cons_append, List.nil_append]
  rw [stage1, stage2, stage3, stage4, stage5]
  simp only [Option.bind_some, endO, backO, pick, List.length_cons, Nat.le_add_left, if_true]

end QP
set_option Elab.async false
set_option linter.all false
set_option maxRecDepth 100000
set_option maxHeartbeats 4000000
namespace QP
open PySem PySem.Spec PyProof.Rows L2 QL

theorem def_mk {K : QL.Fr} {h : Heap} {mg : Str → Option Value} {y x : Str} {st : Stmt} {ps : List Str} {f : Addr} {od an : Option Addr} {sl : Array (Option Value)} {oc kV dc pm cd ct : Value} (X : K.In h) (G : h.Ns mainGlobals mg)
    (a : PySem.W.nsIn K mainGlobals y = some (some (.ref f))) (l : K.lookup f = some ⟨oc, od, .func (PySem.W.fnOf x x (defArgs st) (defBody st) (defScope st) .none kV dc pm an cd ct), sl⟩) (c : PySem.W.codeIn K cd x = true) (k : PySem.W.keepIn K (.ref f) = true)
    (hb : ∀ (kV doc pm : Value) (an : Option Addr) (cdv ct : Value) (us : List Value), us.length = ps.length → bindArgs (PySem.W.fnOf x x (defArgs st) (defBody st) (defScope st) .none kV doc pm an cdv ct) ⟨us, []⟩ = pure (ps.zip us)) : Def K mg y x st ps :=
  ⟨f, _, fun_mk (st := st) l c k, PySem.W.mg_of X G a, (fun_mk (st := st) l c k).binds hb⟩
theorem glob_int {K : QL.Fr} {h : Heap} {mg : Str → Option Value} {x : Str} {i : Int} {t : Tok} (X : K.In h) (G : h.Ns mainGlobals mg) (a : PySem.W.nsIn K mainGlobals x = some (some (.int i t))) : GlobD K mg x (.int i) := ⟨.int i, _, PySem.W.mg_of X G a, ⟨t, rfl⟩, fun _ => .int i⟩
theorem glob_str {K : QL.Fr} {h : Heap} {mg : Str → Option Value} {x : Str} {i : Str} {t : Tok} (X : K.In h) (G : h.Ns mainGlobals mg) (a : PySem.W.nsIn K mainGlobals x = some (some (.str i t))) : GlobD K mg x (.str i) := ⟨.str i, _, PySem.W.mg_of X G a, ⟨t, rfl⟩, fun _ => .str i⟩
theorem glob_ii {K : QL.Fr} {h : Heap} {mg : Str → Option Value} {x : Str} {p : Addr} {i j : Int} {t u : Tok} {dd : Option Addr} {n : Nat} {sl : Array (Option Value)} (X : K.In h) (G : h.Ns mainGlobals mg) (a : PySem.W.nsIn K mainGlobals x = some (some (.ref p))) (l : K.lookup p = some ⟨.type "tuple", dd, .seq #[.int i t, .int j u] n, sl⟩) : GlobD K mg x (.tuple [.int i, .int j]) :=
  ⟨.ref p, _, PySem.W.mg_of X G a, rfl, fun _ => .tup (xs := [.int i, .int j]) (.inr ⟨_, _, _, l, rfl, rfl, (show 2 ≤ sizeLine by decide), .cons ⟨t, rfl⟩ (.cons ⟨u, rfl⟩ .nil)⟩) (.cons (.int i) (.cons (.int j) .nil))⟩
theorem glob_ss {K : QL.Fr} {h : Heap} {mg : Str → Option Value} {x : Str} {p : Addr} {i j : Str} {t u : Tok} {dd : Option Addr} {n : Nat} {sl : Array (Option Value)} (X : K.In h) (G : h.Ns mainGlobals mg) (a : PySem.W.nsIn K mainGlobals x = some (some (.ref p))) (l : K.lookup p = some ⟨.type "tuple", dd, .seq #[.str i t, .str j u] n, sl⟩) : GlobD K mg x (.tuple [.str i, .str j]) :=
  ⟨.ref p, _, PySem.W.mg_of X G a, rfl, fun _ => .tup (xs := [.str i, .str j]) (.inr ⟨_, _, _, l, rfl, rfl, (show 2 ≤ sizeLine by decide), .cons ⟨t, rfl⟩ (.cons ⟨u, rfl⟩ .nil)⟩) (.cons (.str i) (.cons (.str j) .nil))⟩
theorem cls_mk {K : QL.Fr} {h : Heap} {mg : Str → Option Value} {y : Str} {C : Addr} (X : K.In h) (G : h.Ns mainGlobals mg) (a : PySem.W.nsIn K mainGlobals y = some (some (.ref C))) (k : PySem.W.keepIn K (.ref C) = true) (e : PySem.W.excIn K C veM "ValueError.__new__" = true) (s : PySem.W.subIn K (.ref C) (.type "BaseException") = some true) (t : PySem.W.typeIn K (.ref C) = some (.type "type")) : ClsOk K mg (cmOf mg) veM "ValueError.__new__" y :=
  ⟨C, by unfold cmOf; rw [PySem.W.mg_of X G a]; rfl, PySem.W.mg_of X G a, k, e, s, t⟩
theorem nam_mk {K : QL.Fr} {h : Heap} {mg : Str → Option Value} {y : Str} {C : Addr} (X : K.In h) (G : h.Ns mainGlobals mg) (a : PySem.W.nsIn K mainGlobals y = some (some (.ref C))) : mg y = some (cmOf mg y) := by
  unfold cmOf; rw [PySem.W.mg_of X G a]; rfl
theorem exm_mk {K : QL.Fr} {h : Heap} {mg : Str → Option Value} {z y : Str} {C D : Addr} (X : K.In h) (G : h.Ns mainGlobals mg) (a : PySem.W.nsIn K mainGlobals z = some (some (.ref C))) (b : PySem.W.nsIn K mainGlobals y = some (some (.ref D))) (e : PySem.W.exmOne K (.ref C) (.ref D) = some true) : PySem.W.exmOne K (cmOf mg z) (cmOf mg y) = some true := by
  unfold cmOf; rw [PySem.W.mg_of X G a, PySem.W.mg_of X G b]; exact e
theorem wh_mk {K : QL.Fr} {h : Heap} {mg : Str → Option Value} {z : Str} {C : Addr} (X : K.In h) (G : h.Ns mainGlobals mg) (a : PySem.W.nsIn K mainGlobals z = some (some (.ref C)))
    (h1 : PySem.W.findIn K (.ref C) "__getattribute__" = some (some (.builtin "BaseException.__getattribute__"))) (h2 : PySem.W.findIn K (.ref C) "__getattr__" = some none) (h3 : PySem.W.subIn K (.ref C) (.type "BaseException") = some true) (h4 : PySem.W.hasDictIn K C = true) (h5 : PySem.W.findIn K (.ref C) "__class__" = some (some (.builtin "object.__class__"))) (h6 : PySem.W.specialIn K (.builtin "object.__class__") "__get__" = some (some (.builtin "getset_descriptor.__get__"))) (h7 : PySem.W.takesIn K (.builtin "object.__class__") = some true) (h8 : PySem.W.mroIn K C (.type "object") = some true) (hv : PySem.W.kitOne K (.ref C) (.type "ValueError") = some true)
    {D0 : Addr} {b0 : Bool} (a0 : PySem.W.nsIn K mainGlobals "NoPlan" = some (some (.ref D0))) (k0 : PySem.W.kitOne K (.ref C) (.ref D0) = some b0) (e0 : whTt z "NoPlan" = b0)
    {D1 : Addr} {b1 : Bool} (a1 : PySem.W.nsIn K mainGlobals "NoLevels" = some (some (.ref D1))) (k1 : PySem.W.kitOne K (.ref C) (.ref D1) = some b1) (e1 : whTt z "NoLevels" = b1)
    {D2 : Addr} {b2 : Bool} (a2 : PySem.W.nsIn K mainGlobals "NoWidths" = some (some (.ref D2))) (k2 : PySem.W.kitOne K (.ref C) (.ref D2) = some b2) (e2 : whTt z "NoWidths" = b2)
    {D3 : Addr} {b3 : Bool} (a3 : PySem.W.nsIn K mainGlobals "NoBeam" = some (some (.ref D3))) (k3 : PySem.W.kitOne K (.ref C) (.ref D3) = some b3) (e3 : whTt z "NoBeam" = b3)
    {D4 : Addr} {b4 : Bool} (a4 : PySem.W.nsIn K mainGlobals "NoRoom" = some (some (.ref D4))) (k4 : PySem.W.kitOne K (.ref C) (.ref D4) = some b4) (e4 : whTt z "NoRoom" = b4)
    {D5 : Addr} {b5 : Bool} (a5 : PySem.W.nsIn K mainGlobals "NoProportion" = some (some (.ref D5))) (k5 : PySem.W.kitOne K (.ref C) (.ref D5) = some b5) (e5 : whTt z "NoProportion" = b5)
    {D6 : Addr} {b6 : Bool} (a6 : PySem.W.nsIn K mainGlobals "Parted" = some (some (.ref D6))) (k6 : PySem.W.kitOne K (.ref C) (.ref D6) = some b6) (e6 : whTt z "Parted" = b6)
    {D7 : Addr} {b7 : Bool} (a7 : PySem.W.nsIn K mainGlobals "NoNest" = some (some (.ref D7))) (k7 : PySem.W.kitOne K (.ref C) (.ref D7) = some b7) (e7 : whTt z "NoNest" = b7)
    {D8 : Addr} {b8 : Bool} (a8 : PySem.W.nsIn K mainGlobals "NoText" = some (some (.ref D8))) (k8 : PySem.W.kitOne K (.ref C) (.ref D8) = some b8) (e8 : whTt z "NoText" = b8)
    {D9 : Addr} {b9 : Bool} (a9 : PySem.W.nsIn K mainGlobals "Nothing" = some (some (.ref D9))) (k9 : PySem.W.kitOne K (.ref C) (.ref D9) = some b9) (e9 : whTt z "Nothing" = b9) : WhOk K mg z := by
  refine ⟨C, by unfold cmOf; rw [PySem.W.mg_of X G a]; rfl, ⟨h1, h2, h3, h4, h5, h6, h7, h8⟩, hv, fun y hy => ?_⟩
  unfold kinds at hy
  simp only [List.mem_cons, List.not_mem_nil, or_false] at hy
  rcases hy with rfl | rfl | rfl | rfl | rfl | rfl | rfl | rfl | rfl | rfl
  · exact ⟨D0, PySem.W.mg_of X G a0, by rw [k0, e0]⟩
  · exact ⟨D1, PySem.W.mg_of X G a1, by rw [k1, e1]⟩
  · exact ⟨D2, PySem.W.mg_of X G a2, by rw [k2, e2]⟩
  · exact ⟨D3, PySem.W.mg_of X G a3, by rw [k3, e3]⟩
  · exact ⟨D4, PySem.W.mg_of X G a4, by rw [k4, e4]⟩
  · exact ⟨D5, PySem.W.mg_of X G a5, by rw [k5, e5]⟩
  · exact ⟨D6, PySem.W.mg_of X G a6, by rw [k6, e6]⟩
  · exact ⟨D7, PySem.W.mg_of X G a7, by rw [k7, e7]⟩
  · exact ⟨D8, PySem.W.mg_of X G a8, by rw [k8, e8]⟩
  · exact ⟨D9, PySem.W.mg_of X G a9, by rw [k9, e9]⟩
theorem all_ok {P : Program} {w : World} {K : QL.Fr} {mg : Str → Option Value} {base : Heap} (T : Txt K mg) (X_is_any_whole : Def K mg "is_any_whole" "is_any_whole" s_is_any_whole ["thing"]) (X_is_whole : Def K mg "is_whole" "is_whole" s_is_whole ["thing", "low", "high"]) (X_common : Def K mg "common" "common" s_common ["one", "other"]) (X_made_of : Def K mg "made_of" "made_of" s_made_of ["top", "bottom"]) (X_is_fraction : Def K mg "is_fraction" "is_fraction" s_is_fraction ["thing"]) (X_plus : Def K mg "plus" "plus" s_plus ["one", "other"]) (X_less : Def K mg "less" "less" s_less ["one"]) (X_minus : Def K mg "minus" "minus" s_minus ["one", "other"]) (X_times : Def K mg "times" "times" s_times ["one", "other"]) (X_over : Def K mg "over" "over" s_over ["one", "other"]) (X_total : Def K mg "total" "total" s_total ["some"]) (X_is_proportion : Def K mg "is_proportion" "is_proportion" s_is_proportion ["thing"]) (X_is_room : Def K mg "is_room" "is_room" s_is_room ["beams", "thing"]) (X_joined_from : Def K mg "joined_from" "joined_from" s_joined_from ["rooms", "start"]) (X_hangs_together : Def K mg "hangs_together" "hangs_together" s_hangs_together ["beams", "rooms"]) (X_good_plan : Def K mg "good_plan" "good_plan" s_good_plan ["thing"]) (X_need_plan : Def K mg "need_plan" "need_plan" s_need_plan ["plan"]) (X_solved : Def K mg "solved" "solved" s_solved ["rows"]) (X_pulls_of : Def K mg "pulls_of" "pulls_of" s_pulls_of ["beams", "rooms", "beam"]) (X_levels_by : Def K mg "levels_by" "levels_by" s_levels_by ["beams", "rooms", "fixed", "leaving"]) (X_levels_of : Def K mg "levels_of" "levels_of" s_levels_of ["plan"]) (X_widths_by : Def K mg "widths_by" "widths_by" s_widths_by ["rooms", "some"]) (X_hanging : Def K mg "hanging" "hanging" s_hanging ["rooms", "some", "beam"]) (X_hall_of : Def K mg "hall_of" "hall_of" s_hall_of ["plan"]) (X_hall : Def K mg "hall" "hall" s_hall ["plan"]) (X_with_room : Def K mg "with_room" "with_room" s_with_room ["plan", "room"]) (X_need_number : Def K mg "need_number" "need_number" s_need_number ["plan", "number"]) (X_without_room : Def K mg "without_room" "without_room" s_without_room ["plan", "number"]) (X_wider : Def K mg "wider" "wider" s_wider ["plan", "number", "proportion"]) (X__law_cell_at : Def K mg "_law_cell_at" "_law_cell_at" s__law_cell_at ["script", "k"]) (X__law_mixed : Def K mg "_law_mixed" "_law_mixed" s__law_mixed ["script", "k", "bound"]) (X__law_draw : Def K mg "_law_draw" "_law_draw" s__law_draw ["script", "town", "bound"]) (X__law_less : Def K mg "_law_less" "_law_less" s__law_less ["one", "other"]) (X__law_pick : Def K mg "_law_pick" "_law_pick" s__law_pick ["script", "town", "some"]) (X__law_both : Def K mg "_law_both" "_law_both" s__law_both ["one", "other"]) (X__law_part : Def K mg "_law_part" "_law_part" s__law_part ["top", "bottom"]) (X__law_some_proportion : Def K mg "_law_some_proportion" "_law_some_proportion" s__law_some_proportion ["script", "town"]) (X__law_order_of : Def K mg "_law_order_of" "_law_order_of" s__law_order_of ["script", "town", "many"]) (X__law_some_plan : Def K mg "_law_some_plan" "_law_some_plan" s__law_some_plan ["script", "town", "beams_most", "more_most"]) (X__law_which : Def K mg "_law_which" "_law_which" s__law_which ["e"]) (X__law_ask : Def K mg "_law_ask" "_law_ask" s__law_ask ["plan", "number"]) {ff : Addr} {fd : FuncData} (FF : Fun K "law" "law" s_law ff fd) : FnOk P w K mg base CX0 10 ff fd ["script"] (spO K F_law 1) := by
  have h_is_any_whole := ok_is_any_whole (P := P) (w := w) (base := base) T X_is_any_whole
  have h_is_whole := ok_is_whole (P := P) (w := w) (base := base) T X_is_whole h_is_any_whole
  have h_common := ok_common (P := P) (w := w) (base := base) T X_common
  have h_made_of := ok_made_of (P := P) (w := w) (base := base) T X_made_of h_common
  have h_is_fraction := ok_is_fraction (P := P) (w := w) (base := base) T X_is_fraction h_common h_is_any_whole
  have h_plus := ok_plus (P := P) (w := w) (base := base) T X_plus h_made_of
  have h_less := ok_less (P := P) (w := w) (base := base) T X_less
  have h_minus := ok_minus (P := P) (w := w) (base := base) T X_minus h_less h_plus
  have h_times := ok_times (P := P) (w := w) (base := base) T X_times h_made_of
  have h_over := ok_over (P := P) (w := w) (base := base) T X_over h_made_of
  have h_total := ok_total (P := P) (w := w) (base := base) T X_total h_plus
  have h_is_proportion := ok_is_proportion (P := P) (w := w) (base := base) T X_is_proportion h_is_fraction
  have h_is_room := ok_is_room (P := P) (w := w) (base := base) T X_is_room h_is_proportion h_is_whole
  have h_joined_from := ok_joined_from (P := P) (w := w) (base := base) T X_joined_from
  have h_hangs_together := ok_hangs_together (P := P) (w := w) (base := base) T X_hangs_together h_joined_from
  have h_good_plan := ok_good_plan (P := P) (w := w) (base := base) T X_good_plan h_hangs_together h_is_room h_is_whole
  have h_need_plan := ok_need_plan (P := P) (w := w) (base := base) T X_need_plan h_good_plan
  have h_solved := ok_solved (P := P) (w := w) (base := base) T X_solved h_minus h_over h_times
  have h_pulls_of := ok_pulls_of (P := P) (w := w) (base := base) T X_pulls_of h_minus h_plus
  have h_levels_by := ok_levels_by (P := P) (w := w) (base := base) T X_levels_by h_minus h_pulls_of h_solved h_times
  have h_levels_of := ok_levels_of (P := P) (w := w) (base := base) T X_levels_of h_levels_by
  have h_widths_by := ok_widths_by (P := P) (w := w) (base := base) T X_widths_by h_minus h_times
  have h_hanging := ok_hanging (P := P) (w := w) (base := base) T X_hanging h_less h_total
  have h_hall_of := ok_hall_of (P := P) (w := w) (base := base) T X_hall_of h_hanging h_levels_of h_widths_by
  have h_hall := ok_hall (P := P) (w := w) (base := base) T X_hall h_hall_of h_need_plan
  have h_with_room := ok_with_room (P := P) (w := w) (base := base) T X_with_room h_is_room h_need_plan
  have h_need_number := ok_need_number (P := P) (w := w) (base := base) T X_need_number h_is_whole h_need_plan
  have h_without_room := ok_without_room (P := P) (w := w) (base := base) T X_without_room h_hangs_together h_need_number
  have hX_without_room := okX_without_room (P := P) (w := w) (base := base) T X_without_room h_hangs_together h_need_number
  have h_wider := ok_wider (P := P) (w := w) (base := base) T X_wider h_is_proportion h_need_number
  have h__law_cell_at := ok__law_cell_at (P := P) (w := w) (base := base) T X__law_cell_at
  have h__law_mixed := ok__law_mixed (P := P) (w := w) (base := base) T X__law_mixed h__law_cell_at
  have h__law_draw := ok__law_draw (P := P) (w := w) (base := base) T X__law_draw h__law_mixed
  have h__law_less := ok__law_less (P := P) (w := w) (base := base) T X__law_less
  have h__law_pick := ok__law_pick (P := P) (w := w) (base := base) T X__law_pick h__law_draw
  have h__law_both := ok__law_both (P := P) (w := w) (base := base) T X__law_both
  have h__law_part := ok__law_part (P := P) (w := w) (base := base) T X__law_part h__law_both
  have h__law_some_proportion := ok__law_some_proportion (P := P) (w := w) (base := base) T X__law_some_proportion h__law_draw h__law_part h__law_pick
  have h__law_order_of := ok__law_order_of (P := P) (w := w) (base := base) T X__law_order_of h__law_draw
  have h__law_some_plan := ok__law_some_plan (P := P) (w := w) (base := base) T X__law_some_plan h__law_draw h__law_order_of h__law_some_proportion
  have hW := okW (P := P) (w := w) (base := base) T X__law_which
  have h__law_ask := ok__law_ask (P := P) (w := w) (base := base) T X__law_ask hX_without_room hW
  exact ok_law T FF h__law_ask h__law_draw h__law_less h__law_some_plan h__law_some_proportion h_hall h_wider h_with_room h_without_room
theorem law_mk {l : PySem.W.OpenLaw} {w : World} {K : QL.Fr} {h : Heap} {mg : Str → Option Value} {fa f : Addr} {od an : Option Addr} {sl : Array (Option Value)} {oc kV dc pm cd ct : Value} (X : K.In h) (G : h.Ns mainGlobals mg) (hfa : mg "law" = some (.ref fa))
    (a : PySem.W.nsIn K mainGlobals "law" = some (some (.ref f))) (lk : K.lookup f = some ⟨oc, od, .func (PySem.W.fnOf "law" "law" (defArgs s_law) (defBody s_law) (defScope s_law) .none kV dc pm an cd ct), sl⟩) (c : PySem.W.codeIn K cd "law" = true) (k : PySem.W.keepIn K (.ref f) = true) (T : Txt K mg) (X_is_any_whole : Def K mg "is_any_whole" "is_any_whole" s_is_any_whole ["thing"]) (X_is_whole : Def K mg "is_whole" "is_whole" s_is_whole ["thing", "low", "high"]) (X_common : Def K mg "common" "common" s_common ["one", "other"]) (X_made_of : Def K mg "made_of" "made_of" s_made_of ["top", "bottom"]) (X_is_fraction : Def K mg "is_fraction" "is_fraction" s_is_fraction ["thing"]) (X_plus : Def K mg "plus" "plus" s_plus ["one", "other"]) (X_less : Def K mg "less" "less" s_less ["one"]) (X_minus : Def K mg "minus" "minus" s_minus ["one", "other"]) (X_times : Def K mg "times" "times" s_times ["one", "other"]) (X_over : Def K mg "over" "over" s_over ["one", "other"]) (X_total : Def K mg "total" "total" s_total ["some"]) (X_is_proportion : Def K mg "is_proportion" "is_proportion" s_is_proportion ["thing"]) (X_is_room : Def K mg "is_room" "is_room" s_is_room ["beams", "thing"]) (X_joined_from : Def K mg "joined_from" "joined_from" s_joined_from ["rooms", "start"]) (X_hangs_together : Def K mg "hangs_together" "hangs_together" s_hangs_together ["beams", "rooms"]) (X_good_plan : Def K mg "good_plan" "good_plan" s_good_plan ["thing"]) (X_need_plan : Def K mg "need_plan" "need_plan" s_need_plan ["plan"]) (X_solved : Def K mg "solved" "solved" s_solved ["rows"]) (X_pulls_of : Def K mg "pulls_of" "pulls_of" s_pulls_of ["beams", "rooms", "beam"]) (X_levels_by : Def K mg "levels_by" "levels_by" s_levels_by ["beams", "rooms", "fixed", "leaving"]) (X_levels_of : Def K mg "levels_of" "levels_of" s_levels_of ["plan"]) (X_widths_by : Def K mg "widths_by" "widths_by" s_widths_by ["rooms", "some"]) (X_hanging : Def K mg "hanging" "hanging" s_hanging ["rooms", "some", "beam"]) (X_hall_of : Def K mg "hall_of" "hall_of" s_hall_of ["plan"]) (X_hall : Def K mg "hall" "hall" s_hall ["plan"]) (X_with_room : Def K mg "with_room" "with_room" s_with_room ["plan", "room"]) (X_need_number : Def K mg "need_number" "need_number" s_need_number ["plan", "number"]) (X_without_room : Def K mg "without_room" "without_room" s_without_room ["plan", "number"]) (X_wider : Def K mg "wider" "wider" s_wider ["plan", "number", "proportion"]) (X__law_cell_at : Def K mg "_law_cell_at" "_law_cell_at" s__law_cell_at ["script", "k"]) (X__law_mixed : Def K mg "_law_mixed" "_law_mixed" s__law_mixed ["script", "k", "bound"]) (X__law_draw : Def K mg "_law_draw" "_law_draw" s__law_draw ["script", "town", "bound"]) (X__law_less : Def K mg "_law_less" "_law_less" s__law_less ["one", "other"]) (X__law_pick : Def K mg "_law_pick" "_law_pick" s__law_pick ["script", "town", "some"]) (X__law_both : Def K mg "_law_both" "_law_both" s__law_both ["one", "other"]) (X__law_part : Def K mg "_law_part" "_law_part" s__law_part ["top", "bottom"]) (X__law_some_proportion : Def K mg "_law_some_proportion" "_law_some_proportion" s__law_some_proportion ["script", "town"]) (X__law_order_of : Def K mg "_law_order_of" "_law_order_of" s__law_order_of ["script", "town", "many"]) (X__law_some_plan : Def K mg "_law_some_plan" "_law_some_plan" s__law_some_plan ["script", "town", "beams_most", "more_most"]) (X__law_which : Def K mg "_law_which" "_law_which" s__law_which ["e"]) (X__law_ask : Def K mg "_law_ask" "_law_ask" s__law_ask ["plan", "number"]) :
    ∃ fd : FuncData, (∀ (s : Shared) (v : Value), BindsTo s fd ⟨[v], []⟩ [("script", v)]) ∧ ∀ base : Heap, K.In base → base.Ns mainGlobals mg → FnOk l.prog w K mg base CX0 10 fa fd ["script"] (spLaw K) := by
  have e := hfa.symm.trans (PySem.W.mg_of X G a)
  cases e
  exact ⟨PySem.W.fnOf "law" "law" (defArgs s_law) (defBody s_law) (defScope s_law) .none kV dc pm an cd ct, fun s v => .of_eq rfl, fun base _ _ => law_of (all_ok T X_is_any_whole X_is_whole X_common X_made_of X_is_fraction X_plus X_less X_minus X_times X_over X_total X_is_proportion X_is_room X_joined_from X_hangs_together X_good_plan X_need_plan X_solved X_pulls_of X_levels_by X_levels_of X_widths_by X_hanging X_hall_of X_hall X_with_room X_need_number X_without_room X_wider X__law_cell_at X__law_mixed X__law_draw X__law_less X__law_pick X__law_both X__law_part X__law_some_proportion X__law_order_of X__law_some_plan X__law_which X__law_ask (fun_mk (st := s_law) lk c k)) law_true⟩
end QP
open PySem PySem.W PyProof.Rows
set_option maxHeartbeats 0 in
theorem PySem.Challenge.cw_roomhalls_k06_whole_wider_holds : PySem.Challenge.rw_roomhalls_k06_whole_wider.Holds := by
  w_on; o_law; k_head; (case hw => w_witness2)
  k_fill
  refine L2.walk_of (l := PySem.Challenge.rw_roomhalls_k06_whole_wider) (n := 63) (k := 10) (x := "script") (CX := fun _ => L2.CX0) (sp := fun w => QL.spLaw _) rfl (by decide) rfl ⟨rfl, by decide, by decide⟩ (fun w h Y => PySem.W.kIn_of Y) ?F (fun _ _ a ns hl _ hS => ⟨a, ns, rfl, hS, hl, fun _ => rfl⟩) (fun _ _ _ _ _ h => h)
  case F =>
    intro w mg fa h KX G hmg
    refine' QP.law_mk KX G hmg ?a ?l ?c ?k ⟨PySem.W.mg_none_of KX G ?z_len, PySem.W.mg_none_of KX G ?z_abs, PySem.W.mg_none_of KX G ?z_range, PySem.W.mg_none_of KX G ?z_zip, PySem.W.mg_none_of KX G ?z_enumerate, PySem.W.mg_none_of KX G ?z_all, PySem.W.mg_none_of KX G ?z_any, PySem.W.mg_none_of KX G ?z_isinstance, PySem.W.mg_none_of KX G ?z_tuple, PySem.W.mg_none_of KX G ?z_list, PySem.W.mg_none_of KX G ?z_int, PySem.W.mg_none_of KX G ?z_str, PySem.W.mg_none_of KX G ?z_bool, PySem.W.mg_none_of KX G ?z_min, PySem.W.mg_none_of KX G ?z_max, PySem.W.mg_none_of KX G ?z_sum, PySem.W.mg_none_of KX G ?z_sorted, PySem.W.mg_none_of KX G ?z_set, PySem.W.mg_none_of KX G ?z_ValueError, QP.glob_ii KX G ?c_NOUGHT ?d_NOUGHT, QP.glob_ii KX G ?c_ONE ?d_ONE, QP.glob_int KX G ?c_BEAMS, QP.glob_int KX G ?c_ROOMS, QP.cls_mk KX G ?ea_Parted ?ek_Parted ?ee_Parted ?es_Parted ?et_Parted, QP.nam_mk KX G ?na_RoomError, QP.exm_mk KX G ?xa_Parted_RoomError ?xb_Parted_RoomError ?xe_Parted_RoomError, QP.wh_mk (b0 := false) (b1 := false) (b2 := false) (b3 := false) (b4 := false) (b5 := false) (b6 := true) (b7 := false) (b8 := false) (b9 := false) KX G ?wa_Parted ?w1_Parted ?w2_Parted ?w3_Parted ?w4_Parted ?w5_Parted ?w6_Parted ?w7_Parted ?w8_Parted ?wv_Parted ?wa0_Parted ?wk0_Parted (by decide) ?wa1_Parted ?wk1_Parted (by decide) ?wa2_Parted ?wk2_Parted (by decide) ?wa3_Parted ?wk3_Parted (by decide) ?wa4_Parted ?wk4_Parted (by decide) ?wa5_Parted ?wk5_Parted (by decide) ?wa6_Parted ?wk6_Parted (by decide) ?wa7_Parted ?wk7_Parted (by decide) ?wa8_Parted ?wk8_Parted (by decide) ?wa9_Parted ?wk9_Parted (by decide)⟩ (QP.def_mk KX G ?a_is_any_whole ?l_is_any_whole ?c_is_any_whole ?k_is_any_whole (fun _ _ _ _ _ _ us hl => match us, hl with | [_], _ => rfl)) (QP.def_mk KX G ?a_is_whole ?l_is_whole ?c_is_whole ?k_is_whole (fun _ _ _ _ _ _ us hl => match us, hl with | [_, _, _], _ => rfl)) (QP.def_mk KX G ?a_common ?l_common ?c_common ?k_common (fun _ _ _ _ _ _ us hl => match us, hl with | [_, _], _ => rfl)) (QP.def_mk KX G ?a_made_of ?l_made_of ?c_made_of ?k_made_of (fun _ _ _ _ _ _ us hl => match us, hl with | [_, _], _ => rfl)) (QP.def_mk KX G ?a_is_fraction ?l_is_fraction ?c_is_fraction ?k_is_fraction (fun _ _ _ _ _ _ us hl => match us, hl with | [_], _ => rfl)) (QP.def_mk KX G ?a_plus ?l_plus ?c_plus ?k_plus (fun _ _ _ _ _ _ us hl => match us, hl with | [_, _], _ => rfl)) (QP.def_mk KX G ?a_less ?l_less ?c_less ?k_less (fun _ _ _ _ _ _ us hl => match us, hl with | [_], _ => rfl)) (QP.def_mk KX G ?a_minus ?l_minus ?c_minus ?k_minus (fun _ _ _ _ _ _ us hl => match us, hl with | [_, _], _ => rfl)) (QP.def_mk KX G ?a_times ?l_times ?c_times ?k_times (fun _ _ _ _ _ _ us hl => match us, hl with | [_, _], _ => rfl)) (QP.def_mk KX G ?a_over ?l_over ?c_over ?k_over (fun _ _ _ _ _ _ us hl => match us, hl with | [_, _], _ => rfl)) (QP.def_mk KX G ?a_total ?l_total ?c_total ?k_total (fun _ _ _ _ _ _ us hl => match us, hl with | [_], _ => rfl)) (QP.def_mk KX G ?a_is_proportion ?l_is_proportion ?c_is_proportion ?k_is_proportion (fun _ _ _ _ _ _ us hl => match us, hl with | [_], _ => rfl)) (QP.def_mk KX G ?a_is_room ?l_is_room ?c_is_room ?k_is_room (fun _ _ _ _ _ _ us hl => match us, hl with | [_, _], _ => rfl)) (QP.def_mk KX G ?a_joined_from ?l_joined_from ?c_joined_from ?k_joined_from (fun _ _ _ _ _ _ us hl => match us, hl with | [_, _], _ => rfl)) (QP.def_mk KX G ?a_hangs_together ?l_hangs_together ?c_hangs_together ?k_hangs_together (fun _ _ _ _ _ _ us hl => match us, hl with | [_, _], _ => rfl)) (QP.def_mk KX G ?a_good_plan ?l_good_plan ?c_good_plan ?k_good_plan (fun _ _ _ _ _ _ us hl => match us, hl with | [_], _ => rfl)) (QP.def_mk KX G ?a_need_plan ?l_need_plan ?c_need_plan ?k_need_plan (fun _ _ _ _ _ _ us hl => match us, hl with | [_], _ => rfl)) (QP.def_mk KX G ?a_solved ?l_solved ?c_solved ?k_solved (fun _ _ _ _ _ _ us hl => match us, hl with | [_], _ => rfl)) (QP.def_mk KX G ?a_pulls_of ?l_pulls_of ?c_pulls_of ?k_pulls_of (fun _ _ _ _ _ _ us hl => match us, hl with | [_, _, _], _ => rfl)) (QP.def_mk KX G ?a_levels_by ?l_levels_by ?c_levels_by ?k_levels_by (fun _ _ _ _ _ _ us hl => match us, hl with | [_, _, _, _], _ => rfl)) (QP.def_mk KX G ?a_levels_of ?l_levels_of ?c_levels_of ?k_levels_of (fun _ _ _ _ _ _ us hl => match us, hl with | [_], _ => rfl)) (QP.def_mk KX G ?a_widths_by ?l_widths_by ?c_widths_by ?k_widths_by (fun _ _ _ _ _ _ us hl => match us, hl with | [_, _], _ => rfl)) (QP.def_mk KX G ?a_hanging ?l_hanging ?c_hanging ?k_hanging (fun _ _ _ _ _ _ us hl => match us, hl with | [_, _, _], _ => rfl)) (QP.def_mk KX G ?a_hall_of ?l_hall_of ?c_hall_of ?k_hall_of (fun _ _ _ _ _ _ us hl => match us, hl with | [_], _ => rfl)) (QP.def_mk KX G ?a_hall ?l_hall ?c_hall ?k_hall (fun _ _ _ _ _ _ us hl => match us, hl with | [_], _ => rfl)) (QP.def_mk KX G ?a_with_room ?l_with_room ?c_with_room ?k_with_room (fun _ _ _ _ _ _ us hl => match us, hl with | [_, _], _ => rfl)) (QP.def_mk KX G ?a_need_number ?l_need_number ?c_need_number ?k_need_number (fun _ _ _ _ _ _ us hl => match us, hl with | [_, _], _ => rfl)) (QP.def_mk KX G ?a_without_room ?l_without_room ?c_without_room ?k_without_room (fun _ _ _ _ _ _ us hl => match us, hl with | [_, _], _ => rfl)) (QP.def_mk KX G ?a_wider ?l_wider ?c_wider ?k_wider (fun _ _ _ _ _ _ us hl => match us, hl with | [_, _, _], _ => rfl)) (QP.def_mk KX G ?a__law_cell_at ?l__law_cell_at ?c__law_cell_at ?k__law_cell_at (fun _ _ _ _ _ _ us hl => match us, hl with | [_, _], _ => rfl)) (QP.def_mk KX G ?a__law_mixed ?l__law_mixed ?c__law_mixed ?k__law_mixed (fun _ _ _ _ _ _ us hl => match us, hl with | [_, _, _], _ => rfl)) (QP.def_mk KX G ?a__law_draw ?l__law_draw ?c__law_draw ?k__law_draw (fun _ _ _ _ _ _ us hl => match us, hl with | [_, _, _], _ => rfl)) (QP.def_mk KX G ?a__law_less ?l__law_less ?c__law_less ?k__law_less (fun _ _ _ _ _ _ us hl => match us, hl with | [_, _], _ => rfl)) (QP.def_mk KX G ?a__law_pick ?l__law_pick ?c__law_pick ?k__law_pick (fun _ _ _ _ _ _ us hl => match us, hl with | [_, _, _], _ => rfl)) (QP.def_mk KX G ?a__law_both ?l__law_both ?c__law_both ?k__law_both (fun _ _ _ _ _ _ us hl => match us, hl with | [_, _], _ => rfl)) (QP.def_mk KX G ?a__law_part ?l__law_part ?c__law_part ?k__law_part (fun _ _ _ _ _ _ us hl => match us, hl with | [_, _], _ => rfl)) (QP.def_mk KX G ?a__law_some_proportion ?l__law_some_proportion ?c__law_some_proportion ?k__law_some_proportion (fun _ _ _ _ _ _ us hl => match us, hl with | [_, _], _ => rfl)) (QP.def_mk KX G ?a__law_order_of ?l__law_order_of ?c__law_order_of ?k__law_order_of (fun _ _ _ _ _ _ us hl => match us, hl with | [_, _, _], _ => rfl)) (QP.def_mk KX G ?a__law_some_plan ?l__law_some_plan ?c__law_some_plan ?k__law_some_plan (fun _ _ _ _ _ _ us hl => match us, hl with | [_, _, _, _], _ => rfl)) (QP.def_mk KX G ?a__law_which ?l__law_which ?c__law_which ?k__law_which (fun _ _ _ _ _ _ us hl => match us, hl with | [_], _ => rfl)) (QP.def_mk KX G ?a__law_ask ?l__law_ask ?c__law_ask ?k__law_ask (fun _ _ _ _ _ _ us hl => match us, hl with | [_, _], _ => rfl))
    (case a => k_is); (case l => k_is); (case c => k_is); (case k => k_is)
    (case z_len => k_is)
    (case z_abs => k_is)
    (case z_range => k_is)
    (case z_zip => k_is)
    (case z_enumerate => k_is)
    (case z_all => k_is)
    (case z_any => k_is)
    (case z_isinstance => k_is)
    (case z_tuple => k_is)
    (case z_list => k_is)
    (case z_int => k_is)
    (case z_str => k_is)
    (case z_bool => k_is)
    (case z_min => k_is)
    (case z_max => k_is)
    (case z_sum => k_is)
    (case z_sorted => k_is)
    (case z_set => k_is)
    (case z_ValueError => k_is)
    (case c_NOUGHT => k_is)
    (case d_NOUGHT => k_is)
    (case c_ONE => k_is)
    (case d_ONE => k_is)
    (case c_BEAMS => k_is)
    (case c_ROOMS => k_is)
    (case ea_Parted => k_is)
    (case ek_Parted => k_is)
    (case ee_Parted => k_exc)
    (case es_Parted => k_is)
    (case et_Parted => k_is)
    (case na_RoomError => k_is)
    (case xa_Parted_RoomError => k_is)
    (case xb_Parted_RoomError => k_is)
    (case xe_Parted_RoomError => kts_exm)
    (case wa_Parted => k_is)
    (case w1_Parted => k_is)
    (case w2_Parted => k_is)
    (case w3_Parted => k_is)
    (case w4_Parted => k_is)
    (case w5_Parted => k_is)
    (case w6_Parted => k_is)
    (case w7_Parted => k_is)
    (case w8_Parted => k_is)
    (case wv_Parted => kit_is)
    (case wa0_Parted => k_is); (case wk0_Parted => kit_is)
    (case wa1_Parted => k_is); (case wk1_Parted => kit_is)
    (case wa2_Parted => k_is); (case wk2_Parted => kit_is)
    (case wa3_Parted => k_is); (case wk3_Parted => kit_is)
    (case wa4_Parted => k_is); (case wk4_Parted => kit_is)
    (case wa5_Parted => k_is); (case wk5_Parted => kit_is)
    (case wa6_Parted => k_is); (case wk6_Parted => kit_is)
    (case wa7_Parted => k_is); (case wk7_Parted => kit_is)
    (case wa8_Parted => k_is); (case wk8_Parted => kit_is)
    (case wa9_Parted => k_is); (case wk9_Parted => kit_is)
    (case a_is_any_whole => k_is); (case l_is_any_whole => k_is); (case c_is_any_whole => k_is); (case k_is_any_whole => k_is)
    (case a_is_whole => k_is); (case l_is_whole => k_is); (case c_is_whole => k_is); (case k_is_whole => k_is)
    (case a_common => k_is); (case l_common => k_is); (case c_common => k_is); (case k_common => k_is)
    (case a_made_of => k_is); (case l_made_of => k_is); (case c_made_of => k_is); (case k_made_of => k_is)
    (case a_is_fraction => k_is); (case l_is_fraction => k_is); (case c_is_fraction => k_is); (case k_is_fraction => k_is)
    (case a_plus => k_is); (case l_plus => k_is); (case c_plus => k_is); (case k_plus => k_is)
    (case a_less => k_is); (case l_less => k_is); (case c_less => k_is); (case k_less => k_is)
    (case a_minus => k_is); (case l_minus => k_is); (case c_minus => k_is); (case k_minus => k_is)
    (case a_times => k_is); (case l_times => k_is); (case c_times => k_is); (case k_times => k_is)
    (case a_over => k_is); (case l_over => k_is); (case c_over => k_is); (case k_over => k_is)
    (case a_total => k_is); (case l_total => k_is); (case c_total => k_is); (case k_total => k_is)
    (case a_is_proportion => k_is); (case l_is_proportion => k_is); (case c_is_proportion => k_is); (case k_is_proportion => k_is)
    (case a_is_room => k_is); (case l_is_room => k_is); (case c_is_room => k_is); (case k_is_room => k_is)
    (case a_joined_from => k_is); (case l_joined_from => k_is); (case c_joined_from => k_is); (case k_joined_from => k_is)
    (case a_hangs_together => k_is); (case l_hangs_together => k_is); (case c_hangs_together => k_is); (case k_hangs_together => k_is)
    (case a_good_plan => k_is); (case l_good_plan => k_is); (case c_good_plan => k_is); (case k_good_plan => k_is)
    (case a_need_plan => k_is); (case l_need_plan => k_is); (case c_need_plan => k_is); (case k_need_plan => k_is)
    (case a_solved => k_is); (case l_solved => k_is); (case c_solved => k_is); (case k_solved => k_is)
    (case a_pulls_of => k_is); (case l_pulls_of => k_is); (case c_pulls_of => k_is); (case k_pulls_of => k_is)
    (case a_levels_by => k_is); (case l_levels_by => k_is); (case c_levels_by => k_is); (case k_levels_by => k_is)
    (case a_levels_of => k_is); (case l_levels_of => k_is); (case c_levels_of => k_is); (case k_levels_of => k_is)
    (case a_widths_by => k_is); (case l_widths_by => k_is); (case c_widths_by => k_is); (case k_widths_by => k_is)
    (case a_hanging => k_is); (case l_hanging => k_is); (case c_hanging => k_is); (case k_hanging => k_is)
    (case a_hall_of => k_is); (case l_hall_of => k_is); (case c_hall_of => k_is); (case k_hall_of => k_is)
    (case a_hall => k_is); (case l_hall => k_is); (case c_hall => k_is); (case k_hall => k_is)
    (case a_with_room => k_is); (case l_with_room => k_is); (case c_with_room => k_is); (case k_with_room => k_is)
    (case a_need_number => k_is); (case l_need_number => k_is); (case c_need_number => k_is); (case k_need_number => k_is)
    (case a_without_room => k_is); (case l_without_room => k_is); (case c_without_room => k_is); (case k_without_room => k_is)
    (case a_wider => k_is); (case l_wider => k_is); (case c_wider => k_is); (case k_wider => k_is)
    (case a__law_cell_at => k_is); (case l__law_cell_at => k_is); (case c__law_cell_at => k_is); (case k__law_cell_at => k_is)
    (case a__law_mixed => k_is); (case l__law_mixed => k_is); (case c__law_mixed => k_is); (case k__law_mixed => k_is)
    (case a__law_draw => k_is); (case l__law_draw => k_is); (case c__law_draw => k_is); (case k__law_draw => k_is)
    (case a__law_less => k_is); (case l__law_less => k_is); (case c__law_less => k_is); (case k__law_less => k_is)
    (case a__law_pick => k_is); (case l__law_pick => k_is); (case c__law_pick => k_is); (case k__law_pick => k_is)
    (case a__law_both => k_is); (case l__law_both => k_is); (case c__law_both => k_is); (case k__law_both => k_is)
    (case a__law_part => k_is); (case l__law_part => k_is); (case c__law_part => k_is); (case k__law_part => k_is)
    (case a__law_some_proportion => k_is); (case l__law_some_proportion => k_is); (case c__law_some_proportion => k_is); (case k__law_some_proportion => k_is)
    (case a__law_order_of => k_is); (case l__law_order_of => k_is); (case c__law_order_of => k_is); (case k__law_order_of => k_is)
    (case a__law_some_plan => k_is); (case l__law_some_plan => k_is); (case c__law_some_plan => k_is); (case k__law_some_plan => k_is)
    (case a__law_which => k_is); (case l__law_which => k_is); (case c__law_which => k_is); (case k__law_which => k_is)
    (case a__law_ask => k_is); (case l__law_ask => k_is); (case c__law_ask => k_is); (case k__law_ask => k_is)
