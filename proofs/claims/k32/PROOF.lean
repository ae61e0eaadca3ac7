import PyProof.Rows.All
import Wide.All
import OpenK.AllK
import Wide.FinOn
import HandS.ForMost
import HandS.Zip
import HandS.IsInst
import HandS.Flow
import HandS.Style
import HandS.TupMul
import HandS.SortInts
import HandS.More
import HandS.Conv
import HandS.TupAny
import HandS.Iter
import HandS.NoneIn
import PyProof.Draws
import PyProof.EnumMake
import PyProof.EnumFor
import KE.GoesZip
import KE.GoesMore
import HandS.SortOrd
import KE.KRevSl
import HandS.Exc
import HandS.ExcOwn
import HandS.TryOnly
import HandS.WordsExc
import KE.KItemsList
import HandS.ListItems
import HandS.HotCalls
import HandS.ExcIs
import HandS.SortRule
import OpenK.KOps
import KE.KCallOwn
import HandS.OwnEq
import HandS.Codes
import HandS.Text
import PyProof.ExcBaseAll.ValueError
import PySem.Challenge.RW_roomhalls_k32_halls_refused
set_option Elab.async false
set_option linter.all false
set_option maxRecDepth 100000
set_option maxHeartbeats 1000000
/-! The Q-layer: Python expressions and statements as Lean functions on plain data. -/
namespace QL
open PySem PySem.Spec PyProof.Rows L2

abbrev D := PyData
/-- what an own (mutable, not shared) object holds -/
inductive Ow where
  | lst (ds : List D)
  | dk (kvs : List (Int × D))
  | dt (kvs : List (List Int × D))
  | ll (dss : List (List D))
  | hal (how : D) (past calls : List D)
/-- a thing that is read alone: a tuple of whole numbers that stands in the heap; what stands at a told address -/
inductive Tg where
  | tk (ns : List Int)
  | adr (a : Addr)
/-- what is known of a slot -/
inductive Sl where
  | un
  | dat (d : D)
  | scr (ns : List Int)
  | own (o : Ow)
  | ref (t : Tg)
abbrev Ro := List Sl
abbrev Fr := PySem.W.Frag
abbrev St := L2.St

theorem SqT_mono {K : Fr} {H H' : Hp} {a : Addr} {xs : List V} (e : Same H H') (h : SqT K H a xs) : SqT K H' a xs := by
  rcases h with (h | ⟨o, h⟩) | h
  · exact .inl (.inl (e _ _ h))
  · exact .inl (.inr ⟨o, e _ _ h⟩)
  · exact .inr h
mutual
/-- data: lists stand tracked, tuples tracked or written -/
inductive Dq (K : Fr) (H : Hp) : V → D → Prop
  | non : Dq K H .non .none
  | bl (b : Bool) : Dq K H (.bl b) (.bool b)
  | int (i : Int) : Dq K H (.int i) (.int i)
  | str (x : Str) : Dq K H (.str x) (.str x)
  | lst {a : Addr} {xs : List V} {ds : List D} : H a = some (.lst xs) → DqAll K H xs ds → Dq K H (.ref a) (.list ds)
  | tup {a : Addr} {xs : List V} {ds : List D} : SqT K H a xs → DqAll K H xs ds → Dq K H (.ref a) (.tuple ds)
  | dic {a : Addr} {o : Obj} {us : List (Key × V)} {ds : List (D × D)} : H a = some (.frz o (.dK us)) → DqKv K H us ds → Dq K H (.ref a) (.dict ds)
inductive DqAll (K : Fr) (H : Hp) : List V → List D → Prop
  | nil : DqAll K H [] []
  | cons {v : V} {vs : List V} {d : D} {ds : List D} : Dq K H v d → DqAll K H vs ds → DqAll K H (v :: vs) (d :: ds)
/-- a locked dict with whole numbers as keys -/
inductive DqKv (K : Fr) (H : Hp) : List (Key × V) → List (D × D) → Prop
  | nil : DqKv K H [] []
  | cons {i : Int} {v : V} {vs : List (Key × V)} {d : D} {ds : List (D × D)} : Dq K H v d → DqKv K H vs ds → DqKv K H ((Sum.inl i, v) :: vs) ((.int i, d) :: ds)
end
mutual
theorem Dq_mono {K : Fr} {H H' : Hp} (e : Same H H') : ∀ {v : V} {d : D}, Dq K H v d → Dq K H' v d
  | _, _, .non => .non
  | _, _, .bl b => .bl b
  | _, _, .int i => .int i
  | _, _, .str x => .str x
  | _, _, .lst h a => .lst (e _ _ h) (DqAll_mono e a)
  | _, _, .tup h a => .tup (SqT_mono e h) (DqAll_mono e a)
  | _, _, .dic h a => .dic (e _ _ h) (DqKv_mono e a)
theorem DqAll_mono {K : Fr} {H H' : Hp} (e : Same H H') : ∀ {v : List V} {d : List D}, DqAll K H v d → DqAll K H' v d
  | _, _, .nil => .nil
  | _, _, .cons h a => .cons (Dq_mono e h) (DqAll_mono e a)
theorem DqKv_mono {K : Fr} {H H' : Hp} (e : Same H H') : ∀ {v : List (Key × V)} {d : List (D × D)}, DqKv K H v d → DqKv K H' v d
  | _, _, .nil => .nil
  | _, _, .cons h a => .cons (Dq_mono e h) (DqKv_mono e a)
end
mutual
theorem Dq.dp {K : Fr} {H H' : Hp} (e : Same H H') : ∀ {v : V} {d : D}, Dq K H v d → PyData.canLay0 d = true → Dp K H' v d
  | _, _, .non, _ => .non
  | _, _, .bl b, _ => .bl b
  | _, _, .int i, _ => .int i
  | _, _, .str x, _ => .str x
  | _, _, .lst h a, c => .lst (SqL.of (e _ _ h)) (DqAll.dp e a (by simpa [PyData.canLay0] using c))
  | _, _, .tup h a, c => .tup (SqT_mono e h) (DqAll.dp e a (by simpa [PyData.canLay0] using c))
  | _, _, .dic h a, c => by simp [PyData.canLay0] at c
theorem DqAll.dp {K : Fr} {H H' : Hp} (e : Same H H') : ∀ {v : List V} {d : List D}, DqAll K H v d → PyData.canLayAll0 d = true → DpAll K H' v d
  | _, _, .nil, _ => .nil
  | _, _, .cons h a, c => .cons (Dq.dp e h (by simp [PyData.canLayAll0] at c; exact c.1)) (DqAll.dp e a (by simp [PyData.canLayAll0] at c; exact c.2))
end
theorem shaped_lay {d : D} (h : SeqAt.shaped d = true) : PyData.canLay0 d = true := by
  unfold SeqAt.shaped at h
  rw [Bool.and_eq_true] at h
  exact h.1
theorem shaped_layAll {ds : List D} (h : SeqAt.shaped (.list ds) = true) : PyData.canLayAll0 ds = true := by
  have := shaped_lay h
  simpa [PyData.canLay0] using this
theorem DqAll.length {K : Fr} {H : Hp} : ∀ {vs : List V} {ds : List D}, DqAll K H vs ds → vs.length = ds.length
  | _, _, .nil => rfl
  | _, _, .cons _ t => by simp [DqAll.length t]
theorem DqAll.append {K : Fr} {H : Hp} : ∀ {vs ws : List V} {ds es : List D}, DqAll K H vs ds → DqAll K H ws es → DqAll K H (vs ++ ws) (ds ++ es)
  | _, _, _, _, .nil, s => s
  | _, _, _, _, .cons r t, s => .cons r (DqAll.append t s)
theorem DqAll.get {K : Fr} {H : Hp} : ∀ {vs : List V} {ds : List D} {i : Nat} {d : D}, DqAll K H vs ds → ds[i]? = some d → ∃ v, vs[i]? = some v ∧ Dq K H v d
  | _, _, _, _, .nil, e => by simp at e
  | _, _, 0, _, .cons r _, e => by simp at e; subst e; exact ⟨_, rfl, r⟩
  | _, _, i + 1, d, .cons _ t, e => by
    obtain ⟨u, h1, h2⟩ := DqAll.get (i := i) (d := d) t (by simpa using e)
    exact ⟨u, by simpa using h1, h2⟩
theorem DqAll.getV {K : Fr} {H : Hp} : ∀ {vs : List V} {ds : List D} {i : Nat} {v : V}, DqAll K H vs ds → vs[i]? = some v → ∃ d, ds[i]? = some d ∧ Dq K H v d
  | _, _, _, _, .nil, e => by simp at e
  | _, _, 0, _, .cons r _, e => by simp at e; subst e; exact ⟨_, rfl, r⟩
  | _, _, i + 1, d, .cons _ t, e => by
    obtain ⟨u, h1, h2⟩ := DqAll.getV (i := i) (v := d) t (by simpa using e)
    exact ⟨u, by simpa using h1, h2⟩
theorem DqAll.set {K : Fr} {H : Hp} {v : V} {d : D} (r : Dq K H v d) : ∀ {vs : List V} {ds : List D} (i : Nat), DqAll K H vs ds → DqAll K H (vs.set i v) (ds.set i d)
  | _, _, _, .nil => .nil
  | _, _, 0, .cons _ t => .cons r t
  | _, _, i + 1, .cons q t => .cons q (DqAll.set r i t)
theorem DqAll.take {K : Fr} {H : Hp} : ∀ {vs : List V} {ds : List D} (n : Nat), DqAll K H vs ds → DqAll K H (vs.take n) (ds.take n)
  | _, _, 0, _ => .nil
  | _, _, _ + 1, .nil => .nil
  | _, _, n + 1, .cons r t => .cons r (DqAll.take n t)
theorem DqAll.drop {K : Fr} {H : Hp} : ∀ {vs : List V} {ds : List D} (n : Nat), DqAll K H vs ds → DqAll K H (vs.drop n) (ds.drop n)
  | _, _, 0, r => r
  | _, _, _ + 1, .nil => .nil
  | _, _, n + 1, .cons _ t => DqAll.drop n t
theorem DqAll.eraseIdx {K : Fr} {H : Hp} : ∀ {vs : List V} {ds : List D} (n : Nat), DqAll K H vs ds → DqAll K H (vs.eraseIdx n) (ds.eraseIdx n)
  | _, _, _, .nil => .nil
  | _, _, 0, .cons _ t => t
  | _, _, n + 1, .cons r t => .cons r (DqAll.eraseIdx n t)
theorem DqAll.reverse {K : Fr} {H : Hp} : ∀ {vs : List V} {ds : List D}, DqAll K H vs ds → DqAll K H vs.reverse ds.reverse
  | _, _, .nil => .nil
  | _, _, .cons r t => by
    rw [List.reverse_cons, List.reverse_cons]
    exact DqAll.append (DqAll.reverse t) (.cons r .nil)

/-- a tuple: it never changes -/
def isT (o : HO) : Prop := ∃ xs, o = .tup xs
def refOf : V → Option Addr
  | .ref a => some a
  | _ => none
/-- what belongs to an own object besides itself -/
def subs : Ow → HO → List Addr
  | .ll _, .lst vs => vs.filterMap refOf
  | .hal _ _ _, .ins _ dx fs => dx :: fs.filterMap fun f => if f.1 = ("how" : Str) then none else refOf f.2
  | _, _ => []
/-- an own object's content -/
def OwOk (K : Fr) (R G H : Hp) (p : Addr) : Ow → HO → Prop
  | .lst ds, .lst vs => DqAll K G vs ds
  | .dk kvs, .dK us => Paired (fun (p : Int × D) (q : Key × V) => q.1 = Sum.inl p.1 ∧ Dq K G q.2 p.2) kvs us
  | .dt kvs, .dT us => Paired (fun (p : List Int × D) (q : List Key × V) => q.1 = p.1.map Sum.inl ∧ Dq K G q.2 p.2) kvs us
  | .ll dss, .lst vs => ∃ qs : List Addr, vs = qs.map V.ref ∧ qs.Nodup ∧ p ∉ qs ∧ Paired (fun (ds : List D) (q : Addr) => ∃ us, H q = some (.lst us) ∧ DqAll K G us ds ∧ G q = none ∧ R q = none) dss qs
  | .hal how past calls, .ins C dx fs => ∃ (vh : V) (q r : Addr) (ps cs : List V), PySem.W.nsIn K mainGlobals "Hall" = some (some (.ref C)) ∧ fs = [(("how" : Str), vh), (("past" : Str), V.ref q), (("calls" : Str), V.ref r)] ∧ Dq K G vh how ∧ H dx = some (.own p) ∧ H q = some (.lst ps) ∧ H r = some (.lst cs) ∧ DqAll K G ps past ∧ DqAll K G cs calls ∧ q ≠ r ∧
      (G dx = none ∧ R dx = none) ∧ (G q = none ∧ R q = none) ∧ (G r = none ∧ R r = none)
  | _, _ => False
theorem OwOk_tup {K : Fr} {R G H : Hp} {p : Addr} {c : Ow} {xs : List V} (h : OwOk K R G H p c (.tup xs)) : False := by cases c <;> exact h
theorem OwOk_isT {K : Fr} {R G H : Hp} {p : Addr} {c : Ow} {ho : HO} (h : OwOk K R G H p c ho) (t : isT ho) : False := by
  obtain ⟨xs, rfl⟩ := t
  exact OwOk_tup h
theorem refs_map : ∀ qs : List Addr, (qs.map V.ref).filterMap refOf = qs
  | [] => rfl
  | q :: qs => by rw [List.map_cons, List.filterMap_cons]; show q :: (qs.map V.ref).filterMap refOf = _; rw [refs_map qs]
def SlT (G : Hp) : Tg → Option (Option V) → Prop
  | .tk ns, o => ∃ a, o = some (some (.ref a)) ∧ G a = some (.tup (ns.map V.int))
  | .adr a, o => o = some (some (.ref a))
theorem SlT_mono {G G' : Hp} (e : Same G G') {t : Tg} {o : Option (Option V)} (h : SlT G t o) : SlT G' t o := by
  cases t with
  | tk ns => obtain ⟨a, h1, h2⟩ := h; exact ⟨a, h1, e _ _ h2⟩
  | adr a => exact h
theorem paired_mem {α β : Type} {F G : α → β → Prop} : ∀ {l₁ : List α} {l₂ : List β}, Paired F l₁ l₂ → (∀ a b, b ∈ l₂ → F a b → G a b) → Paired G l₁ l₂
  | _, _, .nil, _ => .nil
  | _, _, .cons r t, f => .cons (f _ _ List.mem_cons_self r) (paired_mem t fun a b hb => f a b (List.mem_cons_of_mem _ hb))
theorem OwOk_mono {K : Fr} {R G H R' G' H' : Hp} {p : Addr} (e : Same G G') {c : Ow} {ho : HO} (hs : ∀ a ∈ subs c ho, ∀ o, H a = some o → ¬ isT o → G a = none → R a = none → H' a = some o ∧ G' a = none ∧ R' a = none) (h : OwOk K R G H p c ho) : OwOk K R' G' H' p c ho := by
  cases c with
  | lst ds => cases ho <;> first | exact h.elim | exact DqAll_mono e h
  | dk kvs => cases ho <;> first | exact h.elim | exact Paired.mapP h fun _ _ q => ⟨q.1, Dq_mono e q.2⟩
  | dt kvs => cases ho <;> first | exact h.elim | exact Paired.mapP h fun _ _ q => ⟨q.1, Dq_mono e q.2⟩
  | ll dss =>
    cases ho <;> try exact h.elim
    obtain ⟨qs, e1, e2, e3, e4⟩ := h
    subst e1
    refine ⟨qs, rfl, e2, e3, paired_mem e4 fun ds q hq w => ?_⟩
    obtain ⟨us, w1, w2, w3, w4⟩ := w
    obtain ⟨z1, z2, z3⟩ := hs q (by show q ∈ (qs.map V.ref).filterMap refOf; rw [refs_map]; exact hq) _ w1 (fun ⟨xs, z⟩ => by cases z) w3 w4
    exact ⟨us, z1, DqAll_mono e w2, z2, z3⟩
  | hal how past calls =>
    cases ho <;> try exact h.elim
    rename_i C dx fs
    obtain ⟨vh, q, r, ps, cs, n1, rfl, d1, h1, h2, h3, d2, d3, ne, ⟨a1, a2⟩, ⟨b1, b2⟩, ⟨c1, c2⟩⟩ := h
    have m1 : dx ∈ subs (.hal how past calls) (.ins C dx [(("how" : Str), vh), (("past" : Str), V.ref q), (("calls" : Str), V.ref r)]) := List.mem_cons_self
    have m2 : q ∈ subs (.hal how past calls) (.ins C dx [(("how" : Str), vh), (("past" : Str), V.ref q), (("calls" : Str), V.ref r)]) := List.mem_cons_of_mem _ (List.mem_filterMap.mpr ⟨(("past" : Str), V.ref q), by simp, by rw [if_neg (show ¬ _ = _ from by simp only; decide)]; rfl⟩)
    have m3 : r ∈ subs (.hal how past calls) (.ins C dx [(("how" : Str), vh), (("past" : Str), V.ref q), (("calls" : Str), V.ref r)]) := List.mem_cons_of_mem _ (List.mem_filterMap.mpr ⟨(("calls" : Str), V.ref r), by simp, by rw [if_neg (show ¬ _ = _ from by simp only; decide)]; rfl⟩)
    obtain ⟨x1, x2, x3⟩ := hs dx m1 _ h1 (fun ⟨xs, z⟩ => by cases z) a1 a2
    obtain ⟨y1, y2, y3⟩ := hs q m2 _ h2 (fun ⟨xs, z⟩ => by cases z) b1 b2
    obtain ⟨z1, z2, z3⟩ := hs r m3 _ h3 (fun ⟨xs, z⟩ => by cases z) c1 c2
    exact ⟨vh, q, r, ps, cs, n1, rfl, Dq_mono e d1, x1, y1, z1, DqAll_mono e d2, DqAll_mono e d3, ne, ⟨x2, x3⟩, ⟨y2, y3⟩, ⟨z2, z3⟩⟩
/-- what stands below is there, no tuple, and nobody else's -/
theorem OwOk_subs {K : Fr} {R G H : Hp} {p : Addr} {c : Ow} {ho : HO} (h : OwOk K R G H p c ho) : ∀ a ∈ subs c ho, ∃ o, H a = some o ∧ ¬ isT o ∧ G a = none ∧ R a = none := by
  cases c with
  | lst ds => intro a ha; cases ho <;> exact nomatch ha
  | dk ds => intro a ha; cases ho <;> exact nomatch ha
  | dt ds => intro a ha; cases ho <;> exact nomatch ha
  | ll dss =>
    cases ho <;> try exact h.elim
    obtain ⟨qs, e1, e2, e3, e4⟩ := h
    subst e1
    intro a ha
    have ha : a ∈ (qs.map V.ref).filterMap refOf := ha
    rw [refs_map] at ha
    have : ∀ {dss : List (List D)} {qs : List Addr}, Paired (fun (ds : List D) (q : Addr) => ∃ us, H q = some (.lst us) ∧ DqAll K G us ds ∧ G q = none ∧ R q = none) dss qs → a ∈ qs → ∃ o, H a = some o ∧ ¬ isT o ∧ G a = none ∧ R a = none := by
      intro dss qs w
      induction w with
      | nil => intro z; exact nomatch z
      | cons w _ ih =>
        intro z
        rcases List.mem_cons.mp z with rfl | z
        · obtain ⟨us, w1, _, w3, w4⟩ := w
          exact ⟨_, w1, (fun ⟨xs, z⟩ => by cases z), w3, w4⟩
        · exact ih z
    exact this e4 ha
  | hal how past calls =>
    cases ho <;> try exact h.elim
    rename_i C dx fs
    obtain ⟨vh, q, r, ps, cs, n1, rfl, d1, h1, h2, h3, d2, d3, ne, ⟨a1, a2⟩, ⟨b1, b2⟩, ⟨c1, c2⟩⟩ := h
    intro a ha
    rcases List.mem_cons.mp ha with rfl | ha
    · exact ⟨_, h1, (fun ⟨xs, z⟩ => by cases z), a1, a2⟩
    · obtain ⟨f, hf, e⟩ := List.mem_filterMap.mp ha
      simp only [List.mem_cons, List.not_mem_nil, or_false] at hf
      rcases hf with rfl | rfl | rfl
      · rw [if_pos rfl] at e; cases e
      · rw [if_neg (show ¬ _ = _ from by simp only; decide)] at e
        cases e
        exact ⟨_, h2, (fun ⟨xs, z⟩ => by cases z), b1, b2⟩
      · rw [if_neg (show ¬ _ = _ from by simp only; decide)] at e
        cases e
        exact ⟨_, h3, (fun ⟨xs, z⟩ => by cases z), c1, c2⟩
/-- all that belongs to the own object of a slot -/
def Ft (H : Hp) (c : Ow) (o : Option (Option V)) (a : Addr) : Prop := ∃ p ho, o = some (some (.ref p)) ∧ H p = some ho ∧ (a = p ∨ a ∈ subs c ho)
def SlOk (K : Fr) (R G H : Hp) : Sl → Option (Option V) → Prop
  | .un, _ => True
  | .dat d, o => ∃ v, o = some (some v) ∧ Dq K G v d
  | .scr ns, o => ∃ a, o = some (some (.ref a)) ∧ SqL K G a (ns.map V.int)
  | .own c, o => ∃ p ho, o = some (some (.ref p)) ∧ H p = some ho ∧ G p = none ∧ R p = none ∧ OwOk K R G H p c ho
  | .ref t, o => SlT G t o
/-- R: what is others'; G: what is frozen data; the slots ρ of σ -/
structure Rep (K : Fr) (R G H : Hp) (ρ : Ro) (σ : St) : Prop where
  len : ρ.length = σ.length
  subR : Same R H
  subG : Same G H
  dis : ∀ a o, R a = some o → G a = none ∨ isT o
  slot : ∀ (i : Nat) (s : Sl), ρ[i]? = some s → SlOk K R G H s σ[i]?
  apart : ∀ (i j : Nat) (c c' : Ow) (p : Addr), ρ[i]? = some (.own c) → ρ[j]? = some (.own c') → Ft H c σ[i]? p → Ft H c' σ[j]? p → i = j
/-- the heap has grown, and the data with it -/
structure Gr (G H G' H' : Hp) : Prop where
  hh : Same H H'
  gg : Same G G'
  gh : Same G' H'
  fr : ∀ a o, G a = none → G' a = some o → H a = none ∨ isT o
theorem Gr.refl {G H : Hp} (h : Same G H) : Gr G H G H := ⟨.refl _, .refl _, h, fun a o h1 h2 => by rw [h1] at h2; cases h2⟩
theorem Gr.trans {G H G1 H1 G2 H2 : Hp} (a : Gr G H G1 H1) (b : Gr G1 H1 G2 H2) : Gr G H G2 H2 :=
  ⟨a.hh.trans b.hh, a.gg.trans b.gg, b.gh, fun c o h1 h2 => by
    cases q : G1 c with
    | none => exact (b.fr c o q h2).imp a.hh.free id
    | some u =>
      have e := b.gg c u q
      rw [h2] at e
      cases e
      exact a.fr c _ h1 q⟩
/-- a new object of data -/
theorem Gr.new {G H : Hp} {p : Addr} {o : HO} (h : Same G H) (n : H p = none) : Gr G H (upd G p o) (upd H p o) := by
  refine ⟨fun b u e => ?_, fun b u e => ?_, fun b u e => ?_, fun a u h1 h2 => ?_⟩
  · rw [upd_ne (ne_of_none e n)]; exact e
  · rw [upd_ne (ne_of_none (h _ _ e) n)]; exact e
  · by_cases hb : b = p
    · subst hb; rw [upd_same] at e ⊢; exact e
    · rw [upd_ne hb] at e ⊢; exact h _ _ e
  · by_cases hb : a = p
    · subst hb; exact .inl n
    · rw [upd_ne hb, h1] at h2; cases h2
/-- a new object that is not data (forgotten, or to be owned) -/
theorem Gr.junk {G H : Hp} {p : Addr} {o : HO} (h : Same G H) (n : H p = none) : Gr G H G (upd H p o) := by
  refine ⟨fun b u e => ?_, .refl _, fun b u e => ?_, fun a u h1 h2 => ?_⟩
  · rw [upd_ne (ne_of_none e n)]; exact e
  · rw [upd_ne (ne_of_none (h _ _ e) n)]; exact h _ _ e
  · rw [h1] at h2; cases h2
/-- where the heap grows, what is one's own stays so -/
theorem Gr.own {K : Fr} {R G H G' H' : Hp} {p : Addr} {c : Ow} {ho : HO} (g : Gr G H G' H') (x : OwOk K R G H p c ho) : OwOk K R G' H' p c ho :=
  OwOk_mono g.gg (fun a ha o h1 h2 h3 h4 => ⟨g.hh _ _ h1, by
    cases q : G' a with
    | none => rfl
    | some u =>
      rcases g.fr a u h3 q with z | z
      · rw [h1] at z; cases z
      · have e := g.gh _ _ q
        rw [g.hh _ _ h1] at e
        cases e
        exact absurd z h2, h4⟩) x
theorem Gr.keepNone {G H G' H' : Hp} (g : Gr G H G' H') {p : Addr} {ho : HO} (hp : H p = some ho) (nt : ¬ isT ho) (gp : G p = none) : G' p = none := by
  cases q : G' p with
  | none => rfl
  | some u =>
    rcases g.fr p u gp q with z | z
    · rw [hp] at z; cases z
    · have e := g.gh _ _ q
      rw [g.hh _ _ hp] at e
      cases e
      exact absurd z nt
/-- the footprint of a slot, read in the heap that is there -/
theorem Ft.back {K : Fr} {R G H H' : Hp} {c : Ow} {o : Option (Option V)} {a : Addr} (s : SlOk K R G H (.own c) o) (hh : ∀ p ho, o = some (some (.ref p)) → H p = some ho → H' p = some ho) (f : Ft H' c o a) : Ft H c o a := by
  obtain ⟨p, ho, e, hp, _⟩ := s
  obtain ⟨p', ho', e', hp', m⟩ := f
  rw [e] at e'
  cases e'
  have := hh p ho e hp
  rw [this] at hp'
  cases hp'
  exact ⟨p, ho, e, hp, m⟩
theorem Ft.self {H : Hp} {c : Ow} {o : Option (Option V)} {p : Addr} {ho : HO} (e : o = some (some (.ref p))) (h : H p = some ho) : Ft H c o p := ⟨p, ho, e, h, .inl rfl⟩
theorem Rep.grow {K : Fr} {R G H G' H' : Hp} {ρ : Ro} {σ : St} (r : Rep K R G H ρ σ) (g : Gr G H G' H') : Rep K R G' H' ρ σ := by
  refine ⟨r.len, r.subR.trans g.hh, g.gh, fun a o h => ?_, fun i s h => ?_, fun i j c c' p h1 h2 h3 h4 => ?_⟩
  · by_cases nt : isT o
    · exact .inr nt
    · exact .inl (g.keepNone (r.subR a o h) nt ((r.dis a o h).resolve_right nt))
  · have := r.slot i s h
    cases s with
    | un => trivial
    | dat d => obtain ⟨v, e, x⟩ := this; exact ⟨v, e, Dq_mono g.gg x⟩
    | scr ns => obtain ⟨a, e, x⟩ := this; exact ⟨a, e, g.gg.seq x⟩
    | ref t => exact SlT_mono g.gg this
    | own c =>
      obtain ⟨p, ho, e, hp, gp, rp, x⟩ := this
      exact ⟨p, ho, e, g.hh _ _ hp, g.keepNone hp (fun z => OwOk_isT x z) gp, rp, g.own x⟩
  · exact r.apart i j c c' p h1 h2 (h3.back (r.slot i _ h1) fun _ _ _ q => g.hh _ _ q) (h4.back (r.slot j _ h2) fun _ _ _ q => g.hh _ _ q)
/-- a slot is set to data -/
theorem Rep.setD {K : Fr} {R G H : Hp} {ρ : Ro} {σ : St} {i : Nat} {v : V} {d : D} (r : Rep K R G H ρ σ) (hd : Dq K G v d) : Rep K R G H (ρ.set i (.dat d)) (σ.set i (some v)) := by
  refine ⟨by simpa using r.len, r.subR, r.subG, r.dis, fun j s h => ?_, fun j k c c' p h1 h2 h3 h4 => ?_⟩
  · by_cases hj : i = j
    · subst hj
      rw [List.getElem?_set] at h
      simp only [if_true] at h
      split at h
      · rename_i hl
        cases h
        rw [List.getElem?_set_self (by rw [← r.len]; exact hl)]
        exact ⟨v, rfl, hd⟩
      · cases h
    · rw [List.getElem?_set_ne hj] at h
      rw [List.getElem?_set_ne hj]
      exact r.slot j s h
  · have hj : i ≠ j := fun e => by
      subst e
      rw [List.getElem?_set] at h1
      simp only [if_true] at h1
      split at h1 <;> cases h1
    have hk : i ≠ k := fun e => by
      subst e
      rw [List.getElem?_set] at h2
      simp only [if_true] at h2
      split at h2 <;> cases h2
    rw [List.getElem?_set_ne hj] at h1 h3
    rw [List.getElem?_set_ne hk] at h2 h4
    exact r.apart j k c c' p h1 h2 h3 h4
/-- a slot is set to a thing that is read -/
theorem Rep.setT {K : Fr} {R G H : Hp} {ρ : Ro} {σ : St} {i : Nat} {v : V} {t : Tg} (r : Rep K R G H ρ σ) (hx : SlT G t (some (some v))) : Rep K R G H (ρ.set i (.ref t)) (σ.set i (some v)) := by
  refine ⟨by simpa using r.len, r.subR, r.subG, r.dis, fun j s h => ?_, fun j k c c' p h1 h2 h3 h4 => ?_⟩
  · by_cases hj : i = j
    · subst hj
      rw [List.getElem?_set] at h
      simp only [if_true] at h
      split at h
      · rename_i hl
        cases h
        rw [List.getElem?_set_self (by rw [← r.len]; exact hl)]
        exact hx
      · cases h
    · rw [List.getElem?_set_ne hj] at h
      rw [List.getElem?_set_ne hj]
      exact r.slot j s h
  · have hj : i ≠ j := fun e => by
      subst e
      rw [List.getElem?_set] at h1
      simp only [if_true] at h1
      split at h1 <;> cases h1
    have hk : i ≠ k := fun e => by
      subst e
      rw [List.getElem?_set] at h2
      simp only [if_true] at h2
      split at h2 <;> cases h2
    rw [List.getElem?_set_ne hj] at h1 h3
    rw [List.getElem?_set_ne hk] at h2 h4
    exact r.apart j k c c' p h1 h2 h3 h4
/-- a slot is forgotten -/
theorem Rep.forget {K : Fr} {R G H : Hp} {ρ : Ro} {σ : St} (r : Rep K R G H ρ σ) (i : Nat) (o : Option V) : Rep K R G H (ρ.set i .un) (σ.set i o) := by
  refine ⟨by simpa using r.len, r.subR, r.subG, r.dis, fun j s h => ?_, fun j k c c' p h1 h2 h3 h4 => ?_⟩
  · by_cases hj : i = j
    · subst hj
      rw [List.getElem?_set] at h
      simp only [if_true] at h
      split at h
      · cases h; trivial
      · cases h
    · rw [List.getElem?_set_ne hj] at h
      rw [List.getElem?_set_ne hj]
      exact r.slot j s h
  · have hj : i ≠ j := fun e => by
      subst e
      rw [List.getElem?_set] at h1
      simp only [if_true] at h1
      split at h1 <;> cases h1
    have hk : i ≠ k := fun e => by
      subst e
      rw [List.getElem?_set] at h2
      simp only [if_true] at h2
      split at h2 <;> cases h2
    rw [List.getElem?_set_ne hj] at h1 h3
    rw [List.getElem?_set_ne hk] at h2 h4
    exact r.apart j k c c' p h1 h2 h3 h4
/-- only the knowledge is dropped -/
theorem Rep.forgetR {K : Fr} {R G H : Hp} {ρ : Ro} {σ : St} (r : Rep K R G H ρ σ) (i : Nat) : Rep K R G H (ρ.set i .un) σ := by
  refine ⟨by simpa using r.len, r.subR, r.subG, r.dis, fun j s h => ?_, fun j k c c' p h1 h2 h3 h4 => ?_⟩
  · by_cases hj : i = j
    · subst hj
      rw [List.getElem?_set] at h
      simp only [if_true] at h
      split at h
      · cases h; trivial
      · cases h
    · rw [List.getElem?_set_ne hj] at h
      exact r.slot j s h
  · have hj : i ≠ j := fun e => by
      subst e
      rw [List.getElem?_set] at h1
      simp only [if_true] at h1
      split at h1 <;> cases h1
    have hk : i ≠ k := fun e => by
      subst e
      rw [List.getElem?_set] at h2
      simp only [if_true] at h2
      split at h2 <;> cases h2
    rw [List.getElem?_set_ne hj] at h1
    rw [List.getElem?_set_ne hk] at h2
    exact r.apart j k c c' p h1 h2 h3 h4
/-- an own list becomes data -/
theorem Rep.freeze {K : Fr} {R G H : Hp} {ρ : Ro} {σ : St} {i : Nat} {ds : List D} (r : Rep K R G H ρ σ) (h : ρ[i]? = some (.own (.lst ds))) :
    ∃ p vs, σ[i]? = some (some (.ref p)) ∧ Same G (upd G p (.lst vs)) ∧ Rep K R (upd G p (.lst vs)) H (ρ.set i (.dat (.list ds))) σ ∧ Dq K (upd G p (.lst vs)) (.ref p) (.list ds) := by
  obtain ⟨p, ho, e, hp, gp, rp, x⟩ := r.slot i _ h
  cases ho <;> try exact x.elim
  rename_i vs
  have gg : Same G (upd G p (.lst vs)) := fun b o q => by rw [upd_ne (ne_of_none q gp)]; exact q
  have hd : Dq K (upd G p (.lst vs)) (.ref p) (.list ds) := .lst upd_same (DqAll_mono gg x)
  refine ⟨p, vs, e, gg, ⟨by simpa using r.len, r.subR, fun b o q => ?_, fun a o q => ?_, fun j s hj => ?_, fun j k c c' q h1 h2 h3 h4 => ?_⟩, hd⟩
  · by_cases hb : b = p
    · subst hb; rw [upd_same] at q; cases q; exact hp
    · rw [upd_ne hb] at q; exact r.subG _ _ q
  · have : a ≠ p := fun z => by subst z; rw [rp] at q; cases q
    rw [upd_ne this]
    exact r.dis a o q
  · by_cases hij : i = j
    · subst hij
      rw [List.getElem?_set] at hj
      simp only [if_true] at hj
      split at hj
      · cases hj; exact ⟨.ref p, e, hd⟩
      · cases hj
    · rw [List.getElem?_set_ne hij] at hj
      have := r.slot j s hj
      cases s with
      | un => trivial
      | dat d => obtain ⟨v, e, x⟩ := this; exact ⟨v, e, Dq_mono gg x⟩
      | scr ns => obtain ⟨a, e, x⟩ := this; exact ⟨a, e, gg.seq x⟩
      | ref t => exact SlT_mono gg this
      | own c =>
        obtain ⟨q, ho, eq, hq, gq, rq, xq⟩ := this
        have out : ∀ a, Ft H c σ[j]? a → a ≠ p := fun a fa z => by
          subst z
          exact hij (r.apart i j _ _ _ h hj (.self e hp) fa)
        exact ⟨q, ho, eq, hq, by rw [upd_ne (out q (.self eq hq))]; exact gq, rq, OwOk_mono gg (fun a ha o h1 _ h3 h4 => ⟨h1, by rw [upd_ne (out a ⟨q, ho, eq, hq, .inr ha⟩)]; exact h3, h4⟩) xq⟩
  · have hj : i ≠ j := fun e => by
      subst e
      rw [List.getElem?_set] at h1
      simp only [if_true] at h1
      split at h1 <;> cases h1
    have hk : i ≠ k := fun e => by
      subst e
      rw [List.getElem?_set] at h2
      simp only [if_true] at h2
      split at h2 <;> cases h2
    rw [List.getElem?_set_ne hj] at h1
    rw [List.getElem?_set_ne hk] at h2
    exact r.apart j k c c' q h1 h2 h3 h4
/-- an own object is changed -/
theorem Rep.write {K : Fr} {R G H : Hp} {ρ : Ro} {σ : St} {i : Nat} {c c' : Ow} {p : Addr} {ho : HO} (r : Rep K R G H ρ σ) (h : ρ[i]? = some (.own c)) (e : σ[i]? = some (some (.ref p))) (hc : OwOk K R G (upd H p ho) p c' ho) (hs : ∀ old, H p = some old → ∀ a ∈ subs c' ho, a ∈ subs c old := by intro _ _ a ha; exact nomatch ha) :
    Rep K R G (upd H p ho) (ρ.set i (.own c')) σ := by
  obtain ⟨p', ho', e', hp, gp, rp, x⟩ := r.slot i _ h
  rw [e] at e'
  cases e'
  have hi : i < ρ.length := (List.getElem?_eq_some_iff.mp h).1
  have out : ∀ (j : Nat) (c1 : Ow) (a : Addr), i ≠ j → ρ[j]? = some (.own c1) → Ft H c1 σ[j]? a → a ≠ p := fun j c1 a hij hj fa z => by
    subst z
    exact hij (r.apart i j _ _ _ h hj (.self e hp) fa)
  have key : ∀ (j : Nat) (s : Sl), i ≠ j → ρ[j]? = some s → SlOk K R G (upd H p ho) s σ[j]? := fun j s hij hj => by
    have := r.slot j s hj
    cases s with
    | un => trivial
    | dat d => exact this
    | scr ns => exact this
    | ref t => exact this
    | own c =>
      obtain ⟨q, hq', eq, hq, gq, rq, xq⟩ := this
      exact ⟨q, hq', eq, by rw [upd_ne (out j c q hij hj (.self eq hq))]; exact hq, gq, rq, OwOk_mono (.refl _) (fun a ha o h1 _ h3 h4 => ⟨by rw [upd_ne (out j c a hij hj ⟨q, hq', eq, hq, .inr ha⟩)]; exact h1, h3, h4⟩) xq⟩
  have own : ∀ (j : Nat) (c1 : Ow) (a : Addr), (ρ.set i (.own c'))[j]? = some (.own c1) → Ft (upd H p ho) c1 σ[j]? a → ∃ c2, ρ[j]? = some (.own c2) ∧ Ft H c2 σ[j]? a := fun j c1 a hj fa => by
    by_cases hij : i = j
    · subst hij
      rw [List.getElem?_set_self hi] at hj
      cases hj
      obtain ⟨q, hq, eq, hh, m⟩ := fa
      rw [e] at eq
      cases eq
      rw [upd_same] at hh
      cases hh
      exact ⟨c, h, p, ho', e, hp, m.imp id fun z => hs ho' hp a z⟩
    · rw [List.getElem?_set_ne hij] at hj
      refine ⟨c1, hj, fa.back (r.slot j _ hj) fun q hq eq hh => ?_⟩
      rw [upd_ne (out j c1 q hij hj (.self eq hh))]
      exact hh
  refine ⟨by simpa using r.len, fun b o q => ?_, fun b o q => ?_, r.dis, fun j s hj => ?_, fun j k c1 c2 q h1 h2 h3 h4 => ?_⟩
  · have : b ≠ p := fun z => by subst z; rw [rp] at q; cases q
    rw [upd_ne this]; exact r.subR _ _ q
  · have : b ≠ p := fun z => by subst z; rw [gp] at q; cases q
    rw [upd_ne this]; exact r.subG _ _ q
  · by_cases hij : i = j
    · subst hij
      rw [List.getElem?_set_self hi] at hj
      cases hj
      exact ⟨p, ho, e, upd_same, gp, rp, hc⟩
    · rw [List.getElem?_set_ne hij] at hj
      exact key j s hij hj
  · obtain ⟨d1, g1, f1⟩ := own j c1 q h1 h3
    obtain ⟨d2, g2, f2⟩ := own k c2 q h2 h4
    exact r.apart j k d1 d2 q g1 g2 f1 f2

/-- what belongs to a slot's own object is nobody else's -/
theorem Rep.ftN {K : Fr} {R G H : Hp} {ρ : Ro} {σ : St} {i : Nat} {c : Ow} {a : Addr} (r : Rep K R G H ρ σ) (h : ρ[i]? = some (.own c)) (f : Ft H c σ[i]? a) : R a = none ∧ G a = none ∧ ∃ o, H a = some o ∧ ¬ isT o := by
  obtain ⟨q, ho, e, hq, gq, rq, x⟩ := r.slot i _ h
  obtain ⟨q', ho', e', hq', m⟩ := f
  rw [e] at e'
  cases e'
  rw [hq] at hq'
  cases hq'
  rcases m with rfl | m
  · exact ⟨rq, gq, ho, hq, fun z => OwOk_isT x z⟩
  · obtain ⟨o, w1, w2, w3, w4⟩ := OwOk_subs x a m
    exact ⟨w4, w3, o, w1, w2⟩
/-! ### the judgements -/
abbrev M (α : Type) := Ro → Option (α × Ro)
def tM (K : Fr) (m : M D) : TE := fun σ H Q => ∃ R G ρ d ρ', Rep K R G H ρ σ ∧ m ρ = some (d, ρ') ∧ ∀ G' H' v, Same G G' → Rep K R G' H' ρ' σ → Dq K G' v d → Q v H'
def tMT (K : Fr) (m : M Bool) : TT := fun σ H Q => ∃ R G ρ b ρ', Rep K R G H ρ σ ∧ m ρ = some (b, ρ') ∧ ∀ G' H', Same G G' → Rep K R G' H' ρ' σ → Q b H'
def tMA (K : Fr) (m : M (List D)) : TA := fun σ H Q => ∃ R G ρ ds ρ', Rep K R G H ρ σ ∧ m ρ = some (ds, ρ') ∧ ∀ G' H' vs, Same G G' → Rep K R G' H' ρ' σ → DqAll K G' vs ds → Q vs H'
inductive Fl where
  | nx | bk | ct
  | rt (d : D)
abbrev MS := M Fl
/-- but for the slots W all is as it was -/
def Frm (W : List Nat) (σ σ' : St) : Prop := ∀ j : Nat, j ∉ W → σ'[j]? = σ[j]?
theorem Frm.refl (W : List Nat) (σ : St) : Frm W σ σ := fun _ _ => rfl
theorem Frm.trans {W V : List Nat} {σ σ1 σ2 : St} (a : Frm W σ σ1) (b : Frm V σ1 σ2) : Frm (W ++ V) σ σ2 := fun j hj => by
  rw [b j fun z => hj (List.mem_append_right _ z), a j fun z => hj (List.mem_append_left _ z)]
theorem Frm.mono {W V : List Nat} {σ σ1 : St} (a : Frm W σ σ1) (h : ∀ j ∈ W, j ∈ V) : Frm V σ σ1 := fun j hj => a j fun z => hj (h j z)
def flQ (K : Fr) (R G : Hp) (E : Ends) (σ : St) (W : List Nat) (ρ' : Ro) : Fl → Prop
  | .nx => ∀ G' H' σ', Same G G' → Rep K R G' H' ρ' σ' → Frm W σ σ' → E.nx σ' H'
  | .bk => ∀ G' H' σ', Same G G' → Rep K R G' H' ρ' σ' → Frm W σ σ' → E.bk σ' H'
  | .ct => ∀ G' H' σ', Same G G' → Rep K R G' H' ρ' σ' → Frm W σ σ' → E.ct σ' H'
  | .rt d => ∀ G' H' σ' v, Same G G' → Rep K R G' H' ρ' σ' → Frm W σ σ' → Dq K G' v d → E.rt v H'
def tMS (K : Fr) (W : List Nat) (m : MS) : TS := fun E σ H => ∃ R G ρ f ρ', Rep K R G H ρ σ ∧ m ρ = some (f, ρ') ∧ flQ K R G E σ W ρ' f
/-- a target: vs the slots that it sets -/
def tMG (K : Fr) (vs : List Nat) (f : D → Ro → Option Ro) : TG := fun v σ H Q => ∃ R G ρ d ρ', Rep K R G H ρ σ ∧ Dq K G v d ∧ f d ρ = some ρ' ∧ ∀ σ', Rep K R G H ρ' σ' → σ'.length = σ.length → (∀ j : Nat, j ∉ vs → σ'[j]? = σ[j]?) → Q σ' H
/-- what walks over the data xs -/
structure WalkD (K : Fr) (J : It) (G : Hp) (xs : List D) : Prop where
  go : ∀ (i : Nat) G' H, Same G G' → Same G' H → i < xs.length → J.go i H
  stop : ∀ (i : Nat) G' H, Same G G' → Same G' H → xs.length ≤ i → J.stop i H
  yld : ∀ (i : Nat) G' H v H' (d : D), Same G G' → Same G' H → xs[i]? = some d → J.yld i H v H' → ∃ G'', Gr G' H G'' H' ∧ Dq K G'' v d
def tMI (K : Fr) (m : M (List D)) : TI := fun σ H Q => ∃ R G ρ xs ρ', Rep K R G H ρ σ ∧ m ρ = some (xs, ρ') ∧ ∀ G' H' J, Same G G' → Rep K R G' H' ρ' σ → WalkD K J G' xs → Q J H'

theorem PE.imp {X : Cx} {e : Expr} {t t' : TE} (h : PE X e t) (w : ∀ σ H Q, t' σ H Q → t σ H Q) : PE X e t' := ⟨fun pins s σ H Q I q => h.run pins s σ H Q I (w σ H Q q)⟩
theorem PT.imp {X : Cx} {e : Expr} {t t' : TT} (h : PT X e t) (w : ∀ σ H Q, t' σ H Q → t σ H Q) : PT X e t' := ⟨fun pins s σ H Q I q => h.run pins s σ H Q I (w σ H Q q)⟩
theorem PA.imp {X : Cx} {e : List Expr} {t t' : TA} (h : PA X e t) (w : ∀ σ H Q, t' σ H Q → t σ H Q) : PA X e t' := ⟨fun pos pins s σ H Q I q => h.run pos pins s σ H Q I (w σ H Q q)⟩
theorem PS.imp {X : Cx} {e : Stmt} {t t' : TS} (h : PS X e t) (w : ∀ E σ H, t' E σ H → t E σ H) : PS X e t' := ⟨fun pins s σ H E I q => h.run pins s σ H E I (w E σ H q)⟩
theorem PSs.imp {X : Cx} {e : List Stmt} {t t' : TS} (h : PSs X e t) (w : ∀ E σ H, t' E σ H → t E σ H) : PSs X e t' := ⟨fun pins s σ H E I q => h.run pins s σ H E I (w E σ H q)⟩
theorem PG.imp {X : Cx} {e : Expr} {t t' : TG} (h : PG X e t) (w : ∀ v σ H Q, t' v σ H Q → t v σ H Q) : PG X e t' := ⟨fun pins s σ H v u Q I r q => h.run pins s σ H v u Q I r (w v σ H Q q)⟩
theorem PI.imp {X : Cx} {tg e : Expr} {t t' : TI} (h : PI X tg e t) (w : ∀ σ H Q, t' σ H Q → t σ H Q) : PI X tg e t' := ⟨fun pins s σ H Q I q => h.run pins s σ H Q I (w σ H Q q)⟩
theorem PW.imp {X : Cx} {e : Expr} {t t' : TT} (h : PW X e t) (w : ∀ σ H Q, t' σ H Q → t σ H Q) : PW X e t' := ⟨fun wh pins s σ H Q I q => h.run wh pins s σ H Q I (w σ H Q q)⟩
abbrev QE (X : Cx) (e : Expr) (m : M D) : Prop := PE X e (tM X.K m)
abbrev QT (X : Cx) (e : Expr) (m : M Bool) : Prop := PT X e (tMT X.K m)
abbrev QW (X : Cx) (e : Expr) (m : M Bool) : Prop := PW X e (tMT X.K m)
abbrev QA (X : Cx) (e : List Expr) (m : M (List D)) : Prop := PA X e (tMA X.K m)
abbrev QS (X : Cx) (W : List Nat) (e : Stmt) (m : MS) : Prop := PS X e (tMS X.K W m)
abbrev QSs (X : Cx) (W : List Nat) (e : List Stmt) (m : MS) : Prop := PSs X e (tMS X.K W m)
abbrev QG (X : Cx) (vs : List Nat) (e : Expr) (f : D → Ro → Option Ro) : Prop := PG X e (tMG X.K vs f)
abbrev QI (X : Cx) (tg e : Expr) (m : M (List D)) : Prop := PI X tg e (tMI X.K m)
end QL
set_option Elab.async false
set_option linter.all false
set_option maxRecDepth 100000
set_option maxHeartbeats 1000000
namespace QL
open PySem PySem.Spec PyProof.Rows L2

/-! ### functions on data -/
def eVar (i : Nat) : M D := fun ρ => match ρ[i]? with
  | some (.dat d) => some (d, ρ)
  | some (.own (.lst ds)) => some (.list ds, ρ.set i (.dat (.list ds)))
  | _ => none
def eC (d : D) : M D := fun ρ => some (d, ρ)
def eOp2 (f : D → D → Option D) (a b : M D) : M D := fun ρ => (a ρ).bind fun p => (b p.2).bind fun q => (f p.1 q.1).map fun z => (z, q.2)
def eOp1 (f : D → Option D) (a : M D) : M D := fun ρ => (a ρ).bind fun p => (f p.1).map fun z => (z, p.2)
def aNil : M (List D) := fun ρ => some ([], ρ)
def aCons (a : M D) (r : M (List D)) : M (List D) := fun ρ => (a ρ).bind fun p => (r p.2).map fun q => (p.1 :: q.1, q.2)
def eApp (f : List D → Option D) (as : M (List D)) : M D := fun ρ => (as ρ).bind fun p => (f p.1).map fun z => (z, p.2)
def asB : D → Option Bool
  | .bool b => some b
  | _ => none
def cV (a : M D) : M Bool := fun ρ => (a ρ).bind fun p => (asB p.1).map fun b => (b, p.2)
def cAnd (a b : M Bool) : M Bool := fun ρ => (a ρ).bind fun p => if p.1 = true then b p.2 else some (false, p.2)
def cOr (a b : M Bool) : M Bool := fun ρ => (a ρ).bind fun p => if p.1 = true then some (true, p.2) else b p.2
def cNot (a : M Bool) : M Bool := fun ρ => (a ρ).map fun p => (!p.1, p.2)
def eIf (c : M Bool) (a b : M D) : M D := fun ρ => (c ρ).bind fun p => if p.1 = true then a p.2 else b p.2
def eAnd (a b : M D) : M D := fun ρ => (a ρ).bind fun p => (asB p.1).bind fun c => if c = true then b p.2 else some (.bool false, p.2)
def eOr (a b : M D) : M D := fun ρ => (a ρ).bind fun p => (asB p.1).bind fun c => if c = true then some (.bool true, p.2) else b p.2
def eNot (a : M D) : M D := fun ρ => (a ρ).bind fun p => (asB p.1).map fun c => (.bool (!c), p.2)
def eChain (f g : D → D → Option D) (a b c : M D) : M D := fun ρ => (a ρ).bind fun p => (b p.2).bind fun q => (f p.1 q.1).bind fun z => (asB z).bind fun k =>
  if k = true then (c q.2).bind fun r => (g q.1 r.1).map fun z => (z, r.2) else some (.bool false, q.2)

/-! ### rules: names, constants -/
section
variable {X : Cx} {e a b c : Expr} {es : List Expr} {pos : Pos}
theorem qe_var (i : Nat) {x : Str} (hN : X.N[i]? = some x := by rfl) (hv : Vis X.env.scope x := by first | exact Or.inl rfl | exact Or.inr (Or.inl rfl) | exact Or.inr (Or.inr rfl)) (hd : (x == ("__debug__" : Str)) = false := by decide)
    (hcd : (x == ("__classdict__" : Str)) = false := by decide) : QE X (.Name x pos) (eVar i) := by
  refine PE.imp (pe_var hN hv hd hcd) fun σ H Q h => ?_
  obtain ⟨R, G, ρ, d, ρ', r, e, k⟩ := h
  unfold eVar at e
  split at e
  · rename_i d' hs
    cases e
    obtain ⟨v, e, x⟩ := r.slot i _ hs
    exact ⟨v, e, k G H v (.refl _) r x⟩
  · rename_i ds hs
    cases e
    obtain ⟨p, vs, e, gg, r', x⟩ := r.freeze hs
    exact ⟨.ref p, e, k _ H _ gg r' x⟩
  · cases e
theorem qe_const {v : V} {d : D} (h : PE X e (tC v)) (hd : ∀ G, Dq X.K G v d) : QE X e (eC d) := by
  refine PE.imp h fun σ H Q h => ?_
  obtain ⟨R, G, ρ, d', ρ', r, e, k⟩ := h
  cases e
  exact k G H v (.refl _) r (hd G)
theorem qe_int {i : Int} {j} : QE X (.Constant (.int i) j pos) (eC (.int i)) := qe_const pe_int fun _ => .int _
theorem qe_bl {i : Bool} {j} : QE X (.Constant (.bool i) j pos) (eC (.bool i)) := qe_const pe_bl fun _ => .bl _
theorem qe_str {i : Str} {j} : QE X (.Constant (.str i) j pos) (eC (.str i)) := qe_const pe_str fun _ => .str _
theorem qe_non {j} : QE X (.Constant .none j pos) (eC .none) := qe_const pe_non fun _ => .non
/-- a constant of the module -/
def GlobD (K : Fr) (mg : Str → Option Value) (x : Str) (d : D) : Prop := ∃ v u, mg x = some u ∧ RelV v u ∧ ∀ G, Dq K G v d
theorem qe_glob {x : Str} {d : D} (g : GlobD X.K X.mg x d) (hg : Gl X x := by rfl) (hd : (x == ("__debug__" : Str)) = false := by decide) : QE X (.Name x pos) (eC d) := by
  obtain ⟨v, u, hm, r, h⟩ := g
  exact qe_const (pe_glob hg hm r hd) h

/-! ### operators -/
/-- a two-place operation, on data -/
def OpD (K : Fr) (r : R2) (f : D → D → Option D) : Prop := ∀ (G H : Hp) (x y : V) (dx dy d : D) (Q : VK), Same G H → Dq K G x dx → Dq K G y dy → f dx dy = some d → (∀ G' H' v, Gr G H G' H' → Dq K G' v d → Q v H') → r x y H Q
theorem bind2 {m : M D} {n : M D} {α : Type} {f : D → D → Option α} {ρ : Ro} {z : α} {ρ2 : Ro} (h : ((m ρ).bind fun p => (n p.2).bind fun q => (f p.1 q.1).map fun z => (z, q.2)) = some (z, ρ2)) :
    ∃ x ρ1 y, m ρ = some (x, ρ1) ∧ n ρ1 = some (y, ρ2) ∧ f x y = some z := by
  rw [Option.bind_eq_some_iff] at h
  obtain ⟨⟨x, ρ1⟩, h1, h⟩ := h
  rw [Option.bind_eq_some_iff] at h
  obtain ⟨⟨y, ρ3⟩, h2, h⟩ := h
  rw [Option.map_eq_some_iff] at h
  obtain ⟨w, h3, h⟩ := h
  cases h
  exact ⟨x, ρ1, y, h1, h2, h3⟩
theorem tOp_of {K : Fr} {r : R2} {f : D → D → Option D} {m n : M D} (hr : OpD K r f) {σ : St} {H : Hp} {Q : VK} (h : tM K (eOp2 f m n) σ H Q) : tOp r (tM K m) (tM K n) σ H Q := by
  obtain ⟨R, G, ρ, d, ρ', rp, e, k⟩ := h
  obtain ⟨x, ρ1, y, h1, h2, h3⟩ := bind2 e
  refine ⟨R, G, ρ, x, ρ1, rp, h1, fun G1 H1 v1 s1 r1 d1 => ?_⟩
  refine ⟨R, G1, ρ1, y, ρ', r1, h2, fun G2 H2 v2 s2 r2 d2 => ?_⟩
  exact hr G2 H2 v1 v2 x y d Q r2.subG (Dq_mono s2 d1) d2 h3 fun G3 H3 v3 g3 d3 => k G3 H3 v3 ((s1.trans s2).trans g3.gg) (r2.grow g3) d3
theorem qe_op {op : Operator} {r : R2} {f : D → D → Option D} {m n : M D} (ho : OpR X (binaryOp op) r) (hd : OpD X.K r f) (ha : QE X a m) (hb : QE X b n) : QE X (.BinOp a op b pos) (eOp2 f m n) :=
  PE.imp (pe_op ho ha hb) fun _ _ _ h => tOp_of hd h
theorem qe_cmp {op : CmpOp} {r : R2} {f : D → D → Option D} {m n : M D} (ho : OpR X (compareOp op) r) (hd : OpD X.K r f) (ha : QE X a m) (hb : QE X b n) (hm : behindInMarks op b = false := by first | exact nomark _ | rfl | (with_unfolding_all rfl)) : QE X (.Compare a [op] [b] pos) (eOp2 f m n) :=
  PE.imp (pe_cmpR ho ha hb hm) fun _ _ _ h => tOp_of hd h
theorem tM_cV {K : Fr} {m : M D} {σ : St} {H : Hp} {Q : Bool → Hp → Prop} (h : tMT K (cV m) σ H Q) : tM K m σ H fun x H' => ∃ k, x = .bl k ∧ Q k H' := by
  obtain ⟨R, G, ρ, b, ρ', rp, e, k⟩ := h
  unfold cV at e
  rw [Option.bind_eq_some_iff] at e
  obtain ⟨⟨x, ρ1⟩, h1, e⟩ := e
  rw [Option.map_eq_some_iff] at e
  obtain ⟨w, h3, e⟩ := e
  cases e
  refine ⟨R, G, ρ, x, ρ1, rp, h1, fun G1 H1 v1 s1 r1 d1 => ?_⟩
  cases x <;> cases h3
  cases d1
  exact ⟨_, rfl, k G1 H1 s1 r1⟩
/-- monotone in the end -/
theorem tM_mono {K : Fr} {m : M D} {σ : St} {H : Hp} {Q Q' : VK} (h : tM K m σ H Q) (w : ∀ v H, Q v H → Q' v H) : tM K m σ H Q' := by
  obtain ⟨R, G, ρ, b, ρ', rp, e, k⟩ := h
  exact ⟨R, G, ρ, b, ρ', rp, e, fun G' H' v s r d => w _ _ (k G' H' v s r d)⟩
theorem qt_cmp {op : CmpOp} {r : R2} {f : D → D → Option D} {m n : M D} (ho : OpR X (compareOp op) r) (hd : OpD X.K r f) (ha : QE X a m) (hb : QE X b n) (hm : behindInMarks op b = false := by first | exact nomark _ | rfl | (with_unfolding_all rfl)) : QT X (.Compare a [op] [b] pos) (cV (eOp2 f m n)) :=
  PT.imp (pt_cmpR ho ha hb hm) fun _ _ _ h => tOp_of hd (tM_cV h)
theorem qt_val {m : M D} (ha : QE X a m) (he : ∀ whole, isTrue a X.env whole = (do let v ← whole; standAt a.pos; holding [v] (truthy v)) := by intro _; rfl) : QT X a (cV m) :=
  PT.imp (pt_val ha he) fun _ _ _ h => tM_cV h
theorem tChain_of {K : Fr} {r r' : R2} {f g : D → D → Option D} {m n l : M D} (hr : OpD K r f) (hr' : OpD K r' g) {σ : St} {H : Hp} {Q : VK} (h : tM K (eChain f g m n l) σ H Q) : tChain r r' (tM K m) (tM K n) (tM K l) σ H Q := by
  obtain ⟨R, G, ρ, d, ρ', rp, e, k⟩ := h
  unfold eChain at e
  rw [Option.bind_eq_some_iff] at e
  obtain ⟨⟨x, ρ1⟩, h1, e⟩ := e
  rw [Option.bind_eq_some_iff] at e
  obtain ⟨⟨y, ρ2⟩, h2, e⟩ := e
  rw [Option.bind_eq_some_iff] at e
  obtain ⟨z, h3, e⟩ := e
  rw [Option.bind_eq_some_iff] at e
  obtain ⟨t, h4, e⟩ := e
  refine ⟨R, G, ρ, x, ρ1, rp, h1, fun G1 H1 v1 s1 r1 d1 => ?_⟩
  refine ⟨R, G1, ρ1, y, ρ2, r1, h2, fun G2 H2 v2 s2 r2 d2 => ?_⟩
  refine hr G2 H2 v1 v2 x y z _ r2.subG (Dq_mono s2 d1) d2 h3 fun G3 H3 v3 g3 d3 => ?_
  cases z <;> cases h4
  cases d3
  refine ⟨_, rfl, ?_⟩
  have r3 := r2.grow g3
  cases t with
  | true =>
    rw [if_pos rfl] at e ⊢
    rw [Option.bind_eq_some_iff] at e
    obtain ⟨⟨u, ρ4⟩, h5, e⟩ := e
    rw [Option.map_eq_some_iff] at e
    obtain ⟨w, h6, e⟩ := e
    cases e
    refine ⟨R, G3, ρ2, u, _, r3, h5, fun G4 H4 v4 s4 r4 d4 => ?_⟩
    exact hr' G4 H4 v2 v4 y u _ Q r4.subG (Dq_mono (g3.gg.trans s4) d2) d4 h6 fun G5 H5 v5 g5 d5 => k G5 H5 v5 ((((s1.trans s2).trans g3.gg).trans s4).trans g5.gg) (r4.grow g5) d5
  | false =>
    rw [if_neg Bool.false_ne_true] at e ⊢
    cases e
    exact k G3 H3 _ ((s1.trans s2).trans g3.gg) r3 (.bl _)
theorem qe_chain {op op' : CmpOp} {r r' : R2} {f g : D → D → Option D} {m n l : M D} (ho : OpR X (compareOp op) r) (ho' : OpR X (compareOp op') r') (hr : OpD X.K r f) (hr' : OpD X.K r' g) (ha : QE X a m) (hb : QE X b n) (hc : QE X c l)
    (hm : lastMarks [op, op'] [b, c] = false := by with_unfolding_all rfl) : QE X (.Compare a [op, op'] [b, c] pos) (eChain f g m n l) :=
  PE.imp (pe_chain ho ho' ha hb hc hm) fun _ _ _ h => tChain_of hr hr' h
theorem qt_chain {op op' : CmpOp} {r r' : R2} {f g : D → D → Option D} {m n l : M D} (ho : OpR X (compareOp op) r) (ho' : OpR X (compareOp op') r') (hr : OpD X.K r f) (hr' : OpD X.K r' g) (ha : QE X a m) (hb : QE X b n) (hc : QE X c l)
    (hm : lastMarks [op, op'] [b, c] = false := by with_unfolding_all rfl) : QT X (.Compare a [op, op'] [b, c] pos) (cV (eChain f g m n l)) :=
  PT.imp (pt_chain ho ho' ha hb hc hm) fun _ _ _ h => tChain_of hr hr' (tM_cV h)

/-! ### and, or, not, if -/
theorem tAnd_of {K : Fr} {m n : M Bool} {σ : St} {H : Hp} {Q : Bool → Hp → Prop} (h : tMT K (cAnd m n) σ H Q) : tAnd (tMT K m) (tMT K n) σ H Q := by
  obtain ⟨R, G, ρ, d, ρ', rp, e, k⟩ := h
  unfold cAnd at e
  rw [Option.bind_eq_some_iff] at e
  obtain ⟨⟨x, ρ1⟩, h1, e⟩ := e
  refine ⟨R, G, ρ, x, ρ1, rp, h1, fun G1 H1 s1 r1 => ?_⟩
  cases x with
  | true =>
    rw [if_pos rfl] at e ⊢
    exact ⟨R, G1, ρ1, d, ρ', r1, e, fun G2 H2 s2 r2 => k G2 H2 (s1.trans s2) r2⟩
  | false =>
    rw [if_neg Bool.false_ne_true] at e ⊢
    cases e
    exact k G1 H1 s1 r1
theorem tOr_of {K : Fr} {m n : M Bool} {σ : St} {H : Hp} {Q : Bool → Hp → Prop} (h : tMT K (cOr m n) σ H Q) : tOr (tMT K m) (tMT K n) σ H Q := by
  obtain ⟨R, G, ρ, d, ρ', rp, e, k⟩ := h
  unfold cOr at e
  rw [Option.bind_eq_some_iff] at e
  obtain ⟨⟨x, ρ1⟩, h1, e⟩ := e
  refine ⟨R, G, ρ, x, ρ1, rp, h1, fun G1 H1 s1 r1 => ?_⟩
  cases x with
  | true =>
    rw [if_pos rfl] at e ⊢
    cases e
    exact k G1 H1 s1 r1
  | false =>
    rw [if_neg Bool.false_ne_true] at e ⊢
    exact ⟨R, G1, ρ1, d, ρ', r1, e, fun G2 H2 s2 r2 => k G2 H2 (s1.trans s2) r2⟩
variable {rest : List Expr} {m n : M Bool}
theorem qw_and1 (ha : QT X a m) : QW X (.BoolOp .And [a] pos) m := pw_and1 ha
theorem qw_or1 (ha : QT X a m) : QW X (.BoolOp .Or [a] pos) m := pw_or1 ha
theorem qw_and (ha : QT X a m) (hb : QW X (.BoolOp .And (b :: rest) pos) n) : QW X (.BoolOp .And (a :: b :: rest) pos) (cAnd m n) := PW.imp (pw_and ha hb) fun _ _ _ h => tAnd_of h
theorem qw_or (ha : QT X a m) (hb : QW X (.BoolOp .Or (b :: rest) pos) n) : QW X (.BoolOp .Or (a :: b :: rest) pos) (cOr m n) := PW.imp (pw_or ha hb) fun _ _ _ h => tOr_of h
theorem qw_pt (ha : QW X a m) : QT X a m := PW.pt ha
theorem qt_not (ha : QT X a m) : QT X (.UnaryOp .Not a pos) (cNot m) := by
  refine PT.imp (pt_not ha) fun σ H Q h => ?_
  obtain ⟨R, G, ρ, d, ρ', rp, e, k⟩ := h
  unfold cNot at e
  rw [Option.map_eq_some_iff] at e
  obtain ⟨⟨x, ρ1⟩, h1, e⟩ := e
  cases e
  exact ⟨R, G, ρ, x, _, rp, h1, fun G1 H1 s1 r1 => k G1 H1 s1 r1⟩
theorem qe_if {u v : M D} (hc : QT X c m) (ha : QE X a u) (hb : QE X b v) : QE X (.IfExp c a b pos) (eIf m u v) := by
  refine PE.imp (pe_ifExp hc ha hb) fun σ H Q h => ?_
  obtain ⟨R, G, ρ, d, ρ', rp, e, k⟩ := h
  unfold eIf at e
  rw [Option.bind_eq_some_iff] at e
  obtain ⟨⟨x, ρ1⟩, h1, e⟩ := e
  refine ⟨R, G, ρ, x, ρ1, rp, h1, fun G1 H1 s1 r1 => ?_⟩
  cases x with
  | true =>
    rw [if_pos rfl] at e ⊢
    exact ⟨R, G1, ρ1, d, ρ', r1, e, fun G2 H2 v s2 r2 => k G2 H2 v (s1.trans s2) r2⟩
  | false =>
    rw [if_neg Bool.false_ne_true] at e ⊢
    exact ⟨R, G1, ρ1, d, ρ', r1, e, fun G2 H2 v s2 r2 => k G2 H2 v (s1.trans s2) r2⟩
theorem qe_one {op} {u : M D} (ha : QE X a u) : QE X (.BoolOp op [a] pos) u := pe_one ha
theorem qe_and {u v : M D} (ha : QE X a u) (hb : QE X (.BoolOp .And (b :: rest) pos) v) : QE X (.BoolOp .And (a :: b :: rest) pos) (eAnd u v) := by
  refine PE.imp (pe_and ha hb) fun σ H Q h => ?_
  obtain ⟨R, G, ρ, d, ρ', rp, e, k⟩ := h
  unfold eAnd at e
  rw [Option.bind_eq_some_iff] at e
  obtain ⟨⟨x, ρ1⟩, h1, e⟩ := e
  rw [Option.bind_eq_some_iff] at e
  obtain ⟨t, h4, e⟩ := e
  refine ⟨R, G, ρ, x, ρ1, rp, h1, fun G1 H1 v1 s1 r1 d1 => ?_⟩
  cases x <;> cases h4
  cases d1
  refine ⟨_, rfl, ?_⟩
  cases t with
  | true =>
    rw [if_pos rfl] at e ⊢
    exact ⟨R, G1, ρ1, d, ρ', r1, e, fun G2 H2 v s2 r2 => k G2 H2 v (s1.trans s2) r2⟩
  | false =>
    rw [if_neg Bool.false_ne_true] at e ⊢
    cases e
    exact k G1 H1 _ s1 r1 (.bl _)
theorem qe_or {u v : M D} (ha : QE X a u) (hb : QE X (.BoolOp .Or (b :: rest) pos) v) : QE X (.BoolOp .Or (a :: b :: rest) pos) (eOr u v) := by
  refine PE.imp (pe_or ha hb) fun σ H Q h => ?_
  obtain ⟨R, G, ρ, d, ρ', rp, e, k⟩ := h
  unfold eOr at e
  rw [Option.bind_eq_some_iff] at e
  obtain ⟨⟨x, ρ1⟩, h1, e⟩ := e
  rw [Option.bind_eq_some_iff] at e
  obtain ⟨t, h4, e⟩ := e
  refine ⟨R, G, ρ, x, ρ1, rp, h1, fun G1 H1 v1 s1 r1 d1 => ?_⟩
  cases x <;> cases h4
  cases d1
  refine ⟨_, rfl, ?_⟩
  cases t with
  | true =>
    rw [if_pos rfl] at e ⊢
    cases e
    exact k G1 H1 _ s1 r1 (.bl _)
  | false =>
    rw [if_neg Bool.false_ne_true] at e ⊢
    exact ⟨R, G1, ρ1, d, ρ', r1, e, fun G2 H2 v s2 r2 => k G2 H2 v (s1.trans s2) r2⟩
theorem qe_not {u : M D} (ha : QE X a u) : QE X (.UnaryOp .Not a pos) (eNot u) := by
  refine PE.imp (pe_not ha) fun σ H Q h => ?_
  obtain ⟨R, G, ρ, d, ρ', rp, e, k⟩ := h
  unfold eNot at e
  rw [Option.bind_eq_some_iff] at e
  obtain ⟨⟨x, ρ1⟩, h1, e⟩ := e
  rw [Option.map_eq_some_iff] at e
  obtain ⟨t, h4, e⟩ := e
  refine ⟨R, G, ρ, x, ρ1, rp, h1, fun G1 H1 v1 s1 r1 d1 => ?_⟩
  cases x <;> cases h4
  cases d1
  cases e
  exact ⟨_, rfl, k G1 H1 _ s1 r1 (.bl _)⟩
end

/-! ### argument lists, displays, calls -/
section
variable {X : Cx} {e : Expr} {es : List Expr} {pos p : Pos}
theorem qa_nil : QA X [] aNil := PA.imp pa_nil fun σ H Q h => by
  obtain ⟨R, G, ρ, d, ρ', rp, e, k⟩ := h
  cases e
  exact k G H [] (.refl _) rp .nil
theorem qa_cons {m : M D} {n : M (List D)} (ha : QE X e m) (hr : QA X es n) (hs : starEach (e :: es) X.env = (false, eval e X.env) :: starEach es X.env := by rfl) : QA X (e :: es) (aCons m n) := by
  refine PA.imp (pa_cons ha hr hs) fun σ H Q h => ?_
  obtain ⟨R, G, ρ, d, ρ', rp, e, k⟩ := h
  unfold aCons at e
  rw [Option.bind_eq_some_iff] at e
  obtain ⟨⟨x, ρ1⟩, h1, e⟩ := e
  rw [Option.map_eq_some_iff] at e
  obtain ⟨⟨y, ρ2⟩, h2, e⟩ := e
  cases e
  refine ⟨R, G, ρ, x, ρ1, rp, h1, fun G1 H1 v1 s1 r1 d1 => ?_⟩
  refine ⟨R, G1, ρ1, y, _, r1, h2, fun G2 H2 v2 s2 r2 d2 => ?_⟩
  exact k G2 H2 (v1 :: v2) (s1.trans s2) r2 (.cons (Dq_mono s2 d1) d2)
/-- a call by values, on data -/
def CallD (K : Fr) (r : List V → Hp → VK → Prop) (f : List D → Option D) : Prop := ∀ (G H : Hp) (vs : List V) (ds : List D) (d : D) (Q : VK), Same G H → DqAll K G vs ds → f ds = some d → (∀ G' H' v, Gr G H G' H' → Dq K G' v d → Q v H') → r vs H Q
theorem bindA {m : M (List D)} {f : List D → Option D} {ρ : Ro} {z : D} {ρ2 : Ro} (h : eApp f m ρ = some (z, ρ2)) : ∃ x, m ρ = some (x, ρ2) ∧ f x = some z := by
  unfold eApp at h
  rw [Option.bind_eq_some_iff] at h
  obtain ⟨⟨x, ρ1⟩, h1, h⟩ := h
  rw [Option.map_eq_some_iff] at h
  obtain ⟨w, h3, h⟩ := h
  cases h
  exact ⟨x, h1, h3⟩
theorem tApp_of {K : Fr} {r : List V → Hp → VK → Prop} {f : List D → Option D} {m : M (List D)} (hr : CallD K r f) {σ : St} {H : Hp} {Q : VK} (h : tM K (eApp f m) σ H Q) : tMA K m σ H fun vs H1 => r vs H1 Q := by
  obtain ⟨R, G, ρ, d, ρ', rp, e, k⟩ := h
  obtain ⟨x, h1, h2⟩ := bindA e
  refine ⟨R, G, ρ, x, ρ', rp, h1, fun G1 H1 v1 s1 r1 d1 => ?_⟩
  exact hr G1 H1 v1 x d Q r1.subG d1 h2 fun G3 H3 v3 g3 d3 => k G3 H3 v3 (s1.trans g3.gg) (r1.grow g3) d3
def mkTup (ds : List D) : Option D := if ds.length ≤ 1000000 then some (.tuple ds) else none
def mkLst (ds : List D) : Option D := if ds.length ≤ 1000000 then some (.list ds) else none
theorem size_of {n : Nat} (h : n ≤ 1000000) : n ≤ sizeLine := Nat.le_trans h (by decide)
theorem mkTup_ok {K : Fr} : CallD K (fun xs H1 Q => xs.length ≤ sizeLine ∧ ∀ p, H1 p = none → Q (.ref p) (upd H1 p (.tup xs))) mkTup := by
  intro G H vs ds d Q s h e k
  unfold mkTup at e
  split at e
  · rename_i hl
    cases e
    refine ⟨by rw [h.length]; exact size_of hl, fun p hp => k _ _ _ (Gr.new s hp) ?_⟩
    exact .tup (SqT.of upd_same) (DqAll_mono (Gr.new (o := .tup vs) s hp).gg h)
  · cases e
theorem mkLst_ok {K : Fr} : CallD K (fun xs H1 Q => xs.length ≤ sizeLine ∧ ∀ p, H1 p = none → Q (.ref p) (upd H1 p (.lst xs))) mkLst := by
  intro G H vs ds d Q s h e k
  unfold mkLst at e
  split at e
  · rename_i hl
    cases e
    refine ⟨by rw [h.length]; exact size_of hl, fun p hp => k _ _ _ (Gr.new s hp) ?_⟩
    exact .lst upd_same (DqAll_mono (Gr.new (o := .lst vs) s hp).gg h)
  · cases e
theorem qe_tup {x1} {m : M (List D)} (h : QA X es m) : QE X (.Tuple es x1 pos) (eApp mkTup m) := PE.imp (pe_tup h) fun _ _ _ h => tApp_of mkTup_ok h
theorem qe_lst {m : M (List D)} (h : QA X es m) : QE X (.List es pos) (eApp mkLst m) := PE.imp (pe_lst h) fun _ _ _ h => tApp_of mkLst_ok h
theorem qe_callB {x : Str} {id : String} {r : List V → Hp → VK → Prop} {f : List D → Option D} {m : M (List D)} (hc : CallR X (.builtin id) r) (hd : CallD X.K r f) (hm : X.mg x = none) (ha : QA X (e :: es) m) (hg : Gl X x := by rfl) (hv : bootBuiltins x = some (.builtin id) := by decide +kernel) (hn : x ≠ "__name__" := by decide) (hdb : (x == ("__debug__" : Str)) = false := by decide)
    (he : starEach (e :: es) X.env = (false, eval e X.env) :: starEach es X.env := by rfl) (hpl : (backTo pos (starEach es X.env)).any (·.1) = false := by rfl) : QE X (.Call (.Name x p) (e :: es) [] pos) (eApp f m) :=
  PE.imp (pe_callB hc hg hm hv ha hn hdb he hpl) fun _ _ _ h => tApp_of hd h
theorem qe_callTy {x : Str} {T : String} {r : List V → Hp → VK → Prop} {f : List D → Option D} {m : M (List D)} (hc : CallR X (.type T) r) (hd : CallD X.K r f) (hm : X.mg x = none) (ha : QA X (e :: es) m) (hg : Gl X x := by rfl) (hv : bootBuiltins x = some (.type T) := by decide +kernel) (hn : x ≠ "__name__" := by decide) (hdb : (x == ("__debug__" : Str)) = false := by decide)
    (he : starEach (e :: es) X.env = (false, eval e X.env) :: starEach es X.env := by rfl) (hpl : (backTo pos (starEach es X.env)).any (·.1) = false := by rfl) : QE X (.Call (.Name x p) (e :: es) [] pos) (eApp f m) :=
  PE.imp (pe_callTy hc hg hm hv ha hn hdb he hpl) fun _ _ _ h => tApp_of hd h
/-- a def's body run upon data: n parameters, N slots -/
def endOf : Option (Fl × Ro) → Option D
  | some (.rt d, _) => some d
  | some (.nx, _) => some .none
  | _ => none
def runF (n N : Nat) (body : MS) : List D → Option D := fun ds => if ds.length = n then endOf (body (ds.map Sl.dat ++ List.replicate (N - n) Sl.un)) else none
theorem runF_len {n N : Nat} {body : MS} : ∀ ds d, runF n N body ds = some d → ds.length = n := by
  intro ds d h
  unfold runF at h
  split at h
  · assumption
  · cases h
/-- a def of data to data -/
def spP (K : Fr) (F : List D → Option D) (n : Nat) : Sp := fun vs H Q _ => vs.length = n ∧ ∃ G ds d, Same G H ∧ DqAll K G vs ds ∧ F ds = some d ∧ ∀ G' H' v, Gr G H G' H' → Dq K G' v d → Q v H'
theorem qe_call {x : Str} {k : Nat} {f : Addr} {fd : FuncData} {ps : List Str} {F : List D → Option D} {n : Nat} {m : M (List D)} (FO : FnOk X.prog X.w X.K X.mg X.base CX0 k f fd ps (spP X.K F n)) (hr : Room k X.A) (hm : X.mg x = some (.ref f)) (hk : PySem.W.keepIn X.K (.ref f) = true) (hb : Binds X.K fd ps [])
    (ha : QA X (e :: es) m) (hg : Gl X x := by rfl) (hdb : (x == ("__debug__" : Str)) = false := by decide) (he : starEach (e :: es) X.env = (false, eval e X.env) :: starEach es X.env := by rfl) (hpl : (backTo pos (starEach es X.env)).any (·.1) = false := by rfl)
    (hF : ∀ ds d, F ds = some d → ds.length = n := by exact runF_len) :
    QE X (.Call (.Name x p) (e :: es) [] pos) (eApp F m) := by
  refine PE.imp (pe_call (E := fun _ _ _ => False) FO hr hg hm hk hb .nil pass0 ha hdb he hpl) fun σ H Q h => ?_
  obtain ⟨R, G, ρ, d, ρ', rp, e, k⟩ := h
  obtain ⟨x, h1, h2⟩ := bindA e
  refine ⟨R, G, ρ, x, ρ', rp, h1, fun G1 H1 v1 s1 r1 d1 => ?_⟩
  show spP X.K F n (v1 ++ []) H1 Q _
  rw [List.append_nil]
  exact ⟨by rw [d1.length]; exact hF _ _ h2, G1, x, d, r1.subG, d1, h2, fun G3 H3 v3 g3 d3 => k G3 H3 v3 (s1.trans g3.gg) (r1.grow g3) d3⟩
end
end QL
set_option Elab.async false
set_option linter.all false
set_option maxRecDepth 100000
set_option maxHeartbeats 1000000
namespace QL
open PySem PySem.Spec PyProof.Rows L2

def sNil : MS := fun ρ => some (.nx, ρ)
def sSeq (a b : MS) : MS := fun ρ => (a ρ).bind fun p => match p.1 with
  | .nx => b p.2
  | f => some (f, p.2)
def sRet (a : M D) : MS := fun ρ => (a ρ).map fun p => (.rt p.1, p.2)
def sIf (c : M Bool) (a b : MS) : MS := fun ρ => (c ρ).bind fun p => if p.1 = true then a p.2 else b p.2
def gSet (i : Nat) : D → Ro → Option Ro := fun d ρ => some (ρ.set i (.dat d))
def gTupF : List (D → Ro → Option Ro) → List D → Ro → Option Ro
  | [], [], ρ => some ρ
  | f :: fs, d :: ds, ρ => (f d ρ).bind fun ρ1 => gTupF fs ds ρ1
  | _, _, _ => none
def unTup : D → Option (List D)
  | .tuple ds => some ds
  | _ => none
def gTup (fs : List (D → Ro → Option Ro)) : D → Ro → Option Ro := fun d ρ => (unTup d).bind fun ds => gTupF fs ds ρ
def sAsg (a : M D) (g : D → Ro → Option Ro) : MS := fun ρ => (a ρ).bind fun p => (g p.1 p.2).map fun ρ2 => (.nx, ρ2)
def sPar (i j : Nat) (as : M (List D)) : MS := fun ρ => (as ρ).bind fun p => match p.1 with
  | [x, y] => some (.nx, (p.2.set i (.dat x)).set j (.dat y))
  | _ => none
def sDrop (a : M D) : MS := fun ρ => (a ρ).map fun p => (.nx, p.2)
/-- the turns of a loop -/
def forM (g : D → Ro → Option Ro) (b : MS) : List D → MS
  | [], ρ => some (.nx, ρ)
  | x :: xs, ρ => (g x ρ).bind fun ρ1 => (b ρ1).bind fun p => match p.1 with
    | .nx => forM g b xs p.2
    | .ct => forM g b xs p.2
    | .bk => some (.nx, p.2)
    | .rt d => some (.rt d, p.2)
def sFor (it : M (List D)) (g : D → Ro → Option Ro) (b : MS) : MS := fun ρ => (it ρ).bind fun p => forM g b p.1 p.2
def whileM (c : M Bool) (b : MS) : Nat → MS
  | 0, _ => none
  | n + 1, ρ => (c ρ).bind fun q => if q.1 = true then ((b q.2).bind fun p => match p.1 with
    | .nx => whileM c b n p.2
    | .ct => whileM c b n p.2
    | .bk => some (.nx, p.2)
    | .rt d => some (.rt d, p.2)) else some (.nx, q.2)
def sWhile (fuel : Ro → Nat) (c : M Bool) (b : MS) : MS := fun ρ => whileM c b (fuel ρ) ρ

section
variable {X : Cx} {pos : Pos} {st : Stmt} {rest : List Stmt} {e : Expr}
theorem flQ_mono {K : Fr} {R G G1 : Hp} {E : Ends} {ρ' : Ro} {W V : List Nat} {σ σ1 : St} {f : Fl} (h : flQ K R G E σ W ρ' f) (s : Same G G1) (fr : ∀ σ', Frm V σ1 σ' → Frm W σ σ') : flQ K R G1 E σ1 V ρ' f := by
  cases f with
  | nx => exact fun G' H' σ' s' r f => h G' H' σ' (s.trans s') r (fr σ' f)
  | bk => exact fun G' H' σ' s' r f => h G' H' σ' (s.trans s') r (fr σ' f)
  | ct => exact fun G' H' σ' s' r f => h G' H' σ' (s.trans s') r (fr σ' f)
  | rt d => exact fun G' H' σ' v s' r f => h G' H' σ' v (s.trans s') r (fr σ' f)
theorem qs_nil : QSs X [] [] sNil := PSs.imp pss_nil fun E σ H h => by
  obtain ⟨R, G, ρ, f, ρ', rp, e, k⟩ := h
  cases e
  exact k G H σ (.refl _) rp (.refl _ _)
theorem qs_one {m : MS} {W : List Nat} (h : QS X W st m) : QSs X W [st] m := pss_one h
theorem qs_cons {m n : MS} {W V : List Nat} (h1 : QS X W st m) (h2 : QSs X V rest n) : QSs X (W ++ V) (st :: rest) (sSeq m n) := by
  refine PSs.imp (pss_cons h1 h2) fun E σ H h => ?_
  obtain ⟨R, G, ρ, f, ρ', rp, e, k⟩ := h
  unfold sSeq at e
  rw [Option.bind_eq_some_iff] at e
  obtain ⟨⟨f1, ρ1⟩, h1, e⟩ := e
  refine ⟨R, G, ρ, f1, ρ1, rp, h1, ?_⟩
  have left : ∀ σ', Frm W σ σ' → Frm (W ++ V) σ σ' := fun σ' z => z.mono fun j hj => List.mem_append_left _ hj
  cases f1 with
  | nx =>
    intro G1 H1 σ1 s1 r1 f1
    exact ⟨R, G1, ρ1, f, ρ', r1, e, flQ_mono k s1 fun σ' z => f1.trans z⟩
  | bk => cases e; exact flQ_mono (f := .bk) k (.refl _) left
  | ct => cases e; exact flQ_mono (f := .ct) k (.refl _) left
  | rt d => cases e; exact flQ_mono (f := .rt d) k (.refl _) left
theorem qs_ret {m : M D} (h : QE X e m) : QS X [] (.Return (some e) pos) (sRet m) := by
  refine PS.imp (ps_ret h) fun E σ H h => ?_
  obtain ⟨R, G, ρ, f, ρ', rp, e, k⟩ := h
  unfold sRet at e
  rw [Option.map_eq_some_iff] at e
  obtain ⟨⟨x, ρ1⟩, h1, e⟩ := e
  cases e
  exact ⟨R, G, ρ, x, _, rp, h1, fun G' H' v s r d => k G' H' σ v s r (.refl _ _) d⟩
theorem qs_expr {m : M D} (h : QE X e m) (hs : swapsWith e none pos.line X.env = pure false := by rfl) : QS X [] (.Expr e pos) (sDrop m) := by
  refine PS.imp (ps_expr h hs) fun E σ H h => ?_
  obtain ⟨R, G, ρ, f, ρ', rp, e, k⟩ := h
  unfold sDrop at e
  rw [Option.map_eq_some_iff] at e
  obtain ⟨⟨x, ρ1⟩, h1, e⟩ := e
  cases e
  exact ⟨R, G, ρ, x, _, rp, h1, fun G' H' v s r d => k G' H' σ s r (.refl _ _)⟩
theorem qs_if {c : Expr} {a b : List Stmt} {m : M Bool} {u v : MS} {W V : List Nat} (hc : QT X c m) (ha : QSs X W a u) (hb : QSs X V b v) : QS X (W ++ V) (.If c a b pos) (sIf m u v) := by
  refine PS.imp (ps_if hc ha hb) fun E σ H h => ?_
  obtain ⟨R, G, ρ, f, ρ', rp, e, k⟩ := h
  unfold sIf at e
  rw [Option.bind_eq_some_iff] at e
  obtain ⟨⟨x, ρ1⟩, h1, e⟩ := e
  refine ⟨R, G, ρ, x, ρ1, rp, h1, fun G1 H1 s1 r1 => ?_⟩
  cases x with
  | true =>
    rw [if_pos rfl] at e ⊢
    exact ⟨R, G1, ρ1, f, ρ', r1, e, flQ_mono k s1 fun σ' z => z.mono fun j hj => List.mem_append_left _ hj⟩
  | false =>
    rw [if_neg Bool.false_ne_true] at e ⊢
    exact ⟨R, G1, ρ1, f, ρ', r1, e, flQ_mono k s1 fun σ' z => z.mono fun j hj => List.mem_append_right _ hj⟩
/-- code that is never come to -/
def sNever : MS := fun _ => none
theorem qs_never : QS X [] st sNever := PS.imp ps_never fun E σ H h => by obtain ⟨_, _, _, _, _, _, e, _⟩ := h; cases e
theorem qss_never {sts : List Stmt} : QSs X [] sts sNever := PSs.imp pss_never fun E σ H h => by obtain ⟨_, _, _, _, _, _, e, _⟩ := h; cases e

/-! ### targets, assignments -/
theorem qg_name (i : Nat) {x : Str} (hN : X.N.Nodup) (hi : X.N[i]? = some x := by rfl) (hx : Loc X.env.scope x := by first | exact Or.inl rfl | exact Or.inr rfl) (hf : X.fn x = true ∨ X.env.scope.names.lookup x = some .local := by first | exact .inl rfl | exact .inr rfl | assumption) : QG X [i] (.Name x pos) (gSet i) := by
  refine PG.imp (pg_name hN hi hx hf) fun v σ H Q h => ?_
  obtain ⟨R, G, ρ, d, ρ', rp, dd, e, k⟩ := h
  cases e
  exact k _ (rp.setD dd) (by simp) fun j hj => by
    have : i ≠ j := fun z => hj (by simp [z])
    rw [List.getElem?_set_ne this]
end
end QL
set_option Elab.async false
set_option linter.all false
set_option maxRecDepth 100000
set_option maxHeartbeats 1000000
namespace QL
open PySem PySem.Spec PyProof.Rows L2

/-! ### values that stand behind the slots -/
theorem Rep.pushD {K : Fr} {R G H : Hp} {ρ : Ro} {σ : St} {v : V} {d : D} (r : Rep K R G H ρ σ) (hd : Dq K G v d) : Rep K R G H (ρ ++ [.dat d]) (σ ++ [some v]) := by
  have key : ∀ (i : Nat) (s : Sl), (ρ ++ [Sl.dat d])[i]? = some s → (ρ[i]? = some s ∧ (σ ++ [some v])[i]? = σ[i]?) ∨ (s = .dat d ∧ (σ ++ [some v])[i]? = some (some v)) := fun i s h => by
    by_cases hi : i < ρ.length
    · rw [List.getElem?_append_left hi] at h
      exact .inl ⟨h, List.getElem?_append_left (by rw [← r.len]; exact hi)⟩
    · have h1 : (ρ ++ [Sl.dat d])[i]? = [Sl.dat d][i - ρ.length]? := List.getElem?_append_right (by omega)
      rw [h1] at h
      have e : i - ρ.length = 0 := by
        cases q : i - ρ.length with
        | zero => rfl
        | succ k => rw [q] at h; simp at h
      rw [e] at h
      refine .inr ⟨(Option.some.inj h).symm, ?_⟩
      rw [List.getElem?_append_right (by rw [← r.len]; omega), ← r.len, e]
      rfl
  refine ⟨by simp [r.len], r.subR, r.subG, r.dis, fun i s h => ?_, fun i j c c' p h1 h2 h3 h4 => ?_⟩
  · rcases key i s h with ⟨h, e⟩ | ⟨rfl, e⟩
    · rw [e]; exact r.slot i s h
    · rw [e]; exact ⟨v, rfl, hd⟩
  · rcases key i _ h1 with ⟨h1, e1⟩ | ⟨z, _⟩
    · rcases key j _ h2 with ⟨h2, e2⟩ | ⟨z, _⟩
      · rw [e1] at h3; rw [e2] at h4
        exact r.apart i j c c' p h1 h2 h3 h4
      · cases z
    · cases z
theorem OwOk_R {K : Fr} {R R' G H H' : Hp} {p p' : Addr} {c : Ow} {ho : HO} (h0 : subs c ho = []) (hne : ∀ dss, c ≠ .ll dss) (h : OwOk K R G H p c ho) : OwOk K R' G H' p' c ho := by
  cases c with
  | lst ds => cases ho <;> first | exact h.elim | exact h
  | dk ds => cases ho <;> first | exact h.elim | exact h
  | dt ds => cases ho <;> first | exact h.elim | exact h
  | ll dss => exact absurd rfl (hne dss)
  | hal a b c => cases ho <;> first | exact h.elim | cases h0
/-- what was others' is taken as one's own -/
theorem Rep.pushO {K : Fr} {R G H : Hp} {ρ : Ro} {σ : St} {p : Addr} {c : Ow} {ho : HO} (r : Rep K (upd R p ho) G H ρ σ) (hc : OwOk K R G H p c ho) (hR : R p = none) (h0 : subs c ho = [] := by rfl) : Rep K R G H (ρ ++ [.own c]) (σ ++ [some (.ref p)]) := by
  have hp : H p = some ho := r.subR p ho upd_same
  have gp : G p = none := (r.dis p ho upd_same).resolve_right fun z => OwOk_isT hc z
  have key : ∀ (i : Nat) (s : Sl), (ρ ++ [Sl.own c])[i]? = some s → (ρ[i]? = some s ∧ (σ ++ [some (.ref p)])[i]? = σ[i]? ∧ i < ρ.length) ∨ (s = .own c ∧ (σ ++ [some (.ref p)])[i]? = some (some (.ref p)) ∧ i = ρ.length) := fun i s h => by
    by_cases hi : i < ρ.length
    · rw [List.getElem?_append_left hi] at h
      exact .inl ⟨h, List.getElem?_append_left (by rw [← r.len]; exact hi), hi⟩
    · have h1 : (ρ ++ [Sl.own c])[i]? = [Sl.own c][i - ρ.length]? := List.getElem?_append_right (by omega)
      rw [h1] at h
      have e : i - ρ.length = 0 := by
        cases q : i - ρ.length with
        | zero => rfl
        | succ k => rw [q] at h; simp at h
      rw [e] at h
      refine .inr ⟨(Option.some.inj h).symm, ?_, by omega⟩
      rw [List.getElem?_append_right (by rw [← r.len]; omega), ← r.len, e]
      rfl
  have np : ∀ (i : Nat) (c : Ow) (q : Addr), ρ[i]? = some (.own c) → Ft H c σ[i]? q → q ≠ p := fun i c q h f z => by
    obtain ⟨q', ho', e', hq', _, rq, x⟩ := r.slot i _ h
    obtain ⟨q1, ho1, e1, h1, m⟩ := f
    rw [e'] at e1
    cases e1
    rw [hq'] at h1
    cases h1
    rcases m with rfl | m
    · rw [z, upd_same] at rq; cases rq
    · obtain ⟨_, _, _, _, rq⟩ := OwOk_subs x q m
      rw [z, upd_same] at rq; cases rq
  refine ⟨by simp [r.len], fun b o q => ?_, r.subG, fun a o q => ?_, fun i s h => ?_, fun i j c1 c2 q h1 h2 h3 h4 => ?_⟩
  · exact r.subR b o (by rw [upd_ne (ne_of_none q hR)]; exact q)
  · exact r.dis a o (by rw [upd_ne (ne_of_none q hR)]; exact q)
  · rcases key i s h with ⟨h, e, _⟩ | ⟨rfl, e, _⟩
    · rw [e]
      have := r.slot i s h
      cases s with
      | un => trivial
      | dat d => exact this
      | scr ns => exact this
      | ref t => exact this
      | own c1 =>
        obtain ⟨q, hq, e', a1, a2, a3, a4⟩ := this
        exact ⟨q, hq, e', a1, a2, by rw [upd_ne (np i c1 q h (.self e' a1))] at a3; exact a3, OwOk_mono (.refl _) (fun a ha o w1 _ w3 w4 => ⟨w1, w3, by rw [upd_ne (np i c1 a h ⟨q, hq, e', a1, .inr ha⟩)] at w4; exact w4⟩) a4⟩
    · rw [e]; exact ⟨p, ho, rfl, hp, gp, hR, hc⟩
  · have own : ∀ {o a}, o = some (some (V.ref p)) → Ft H c o a → a = p := fun {o a} eo f => by
      obtain ⟨q1, ho1, e1, w1, m⟩ := f
      rw [eo] at e1
      cases e1
      rw [hp] at w1
      cases w1
      rw [h0] at m
      exact m.resolve_right fun z => nomatch z
    rcases key i _ h1 with ⟨h1, e1, _⟩ | ⟨ec, e1, l1⟩
    · rw [e1] at h3
      rcases key j _ h2 with ⟨h2, e2, _⟩ | ⟨ec, e2, _⟩
      · rw [e2] at h4
        exact r.apart i j c1 c2 q h1 h2 h3 h4
      · cases ec
        exact absurd (own e2 h4) (np i c1 _ h1 h3)
    · cases ec
      rcases key j _ h2 with ⟨h2, e2, _⟩ | ⟨_, e2, l2⟩
      · rw [e2] at h4
        exact absurd (own e1 h3) (np j c2 _ h2 h4)
      · rw [l1, l2]
theorem Rep.popO {K : Fr} {R G H : Hp} {ρ : Ro} {σ : St} {p : Addr} {ds : List D} (r : Rep K R G H (ρ ++ [.own (.lst ds)]) (σ ++ [some (.ref p)])) : ∃ ho, Rep K (upd R p ho) G H ρ σ ∧ OwOk K R G H p (.lst ds) ho ∧ R p = none := by
  have hl : ρ.length = σ.length := by have := r.len; simp at this; exact this
  have e0 : (ρ ++ [Sl.own (.lst ds)])[ρ.length]? = some (.own (.lst ds)) := by simp
  have e1 : (σ ++ [some (V.ref p)])[ρ.length]? = some (some (.ref p)) := by rw [hl]; simp
  obtain ⟨p', ho, e, hp, gp, rp, hc⟩ := r.slot _ _ e0
  rw [e1] at e
  cases e
  have lft : ∀ (i : Nat) (s : Sl), ρ[i]? = some s → (ρ ++ [Sl.own (.lst ds)])[i]? = some s ∧ (σ ++ [some (V.ref p)])[i]? = σ[i]? ∧ i < ρ.length := fun i s h => by
    have hi : i < ρ.length := (List.getElem?_eq_some_iff.mp h).1
    exact ⟨by rw [List.getElem?_append_left hi]; exact h, List.getElem?_append_left (by rw [← hl]; exact hi), hi⟩
  refine ⟨ho, ⟨hl, fun b o q => ?_, r.subG, fun a o q => ?_, fun i s h => ?_, fun i j c1 c2 q h1 h2 h3 h4 => ?_⟩, hc, rp⟩
  · by_cases hb : b = p
    · subst hb; rw [upd_same] at q; cases q; exact hp
    · rw [upd_ne hb] at q; exact r.subR b o q
  · by_cases hb : a = p
    · subst hb; exact .inl gp
    · rw [upd_ne hb] at q; exact r.dis a o q
  · obtain ⟨h', e', hi⟩ := lft i s h
    have := r.slot i s h'
    rw [e'] at this
    cases s with
    | un => trivial
    | dat d => exact this
    | scr ns => exact this
    | ref t => exact this
    | own c1 =>
      obtain ⟨q, hq, e2, a1, a2, a3, a4⟩ := this
      have out : ∀ a, Ft H c1 σ[i]? a → a ≠ p := fun a fa z => by
        subst z
        have := r.apart i ρ.length c1 _ _ h' e0 (by rw [e']; exact fa) (.self e1 hp)
        omega
      exact ⟨q, hq, e2, a1, a2, by rw [upd_ne (out q (.self e2 a1))]; exact a3, OwOk_mono (.refl _) (fun a ha o w1 _ w3 w4 => ⟨w1, w3, by rw [upd_ne (out a ⟨q, hq, e2, a1, .inr ha⟩)]; exact w4⟩) a4⟩
  · obtain ⟨g1, f1, _⟩ := lft i _ h1
    obtain ⟨g2, f2, _⟩ := lft j _ h2
    exact r.apart i j c1 c2 q g1 g2 (by rw [f1]; exact h3) (by rw [f2]; exact h4)
/-- the last value is taken as others', with all that belongs to it -/
theorem Rep.popM {K : Fr} {R G H : Hp} {ρ : Ro} {σ : St} {p : Addr} {c : Ow} (r : Rep K R G H (ρ ++ [.own c]) (σ ++ [some (.ref p)])) : ∃ ho R', Rep K R' G H ρ σ ∧ H p = some ho ∧ OwOk K R G H p c ho ∧ (∀ a, a ∈ p :: subs c ho → R' a = H a ∧ R a = none ∧ ∃ o, H a = some o ∧ ¬ isT o) ∧ (∀ a, a ∉ p :: subs c ho → R' a = R a) := by
  have hl : ρ.length = σ.length := by have := r.len; simp at this; exact this
  have e0 : (ρ ++ [Sl.own c])[ρ.length]? = some (.own c) := by simp
  have e1 : (σ ++ [some (V.ref p)])[ρ.length]? = some (some (.ref p)) := by rw [hl]; simp
  obtain ⟨p', ho, e, hp, gp, rp, hc⟩ := r.slot _ _ e0
  rw [e1] at e
  cases e
  have foot : ∀ a, a ∈ p :: subs c ho → R a = none ∧ G a = none ∧ ∃ o, H a = some o ∧ ¬ isT o := fun a ha => by
    rcases List.mem_cons.mp ha with rfl | ha
    · exact ⟨rp, gp, ho, hp, fun z => OwOk_isT hc z⟩
    · obtain ⟨o, w1, w2, w3, w4⟩ := OwOk_subs hc a ha
      exact ⟨w4, w3, o, w1, w2⟩
  have ftm : ∀ a, a ∈ p :: subs c ho → Ft H c (σ ++ [some (V.ref p)])[ρ.length]? a := fun a ha => ⟨p, ho, e1, hp, List.mem_cons.mp ha⟩
  have lft : ∀ (i : Nat) (s : Sl), ρ[i]? = some s → (ρ ++ [Sl.own c])[i]? = some s ∧ (σ ++ [some (V.ref p)])[i]? = σ[i]? ∧ i < ρ.length := fun i s h => by
    have hi : i < ρ.length := (List.getElem?_eq_some_iff.mp h).1
    exact ⟨by rw [List.getElem?_append_left hi]; exact h, List.getElem?_append_left (by rw [← hl]; exact hi), hi⟩
  let R' : Hp := fun a => if a ∈ p :: subs c ho then H a else R a
  have in_ : ∀ a, a ∈ p :: subs c ho → R' a = H a := fun a ha => if_pos ha
  have out_ : ∀ a, a ∉ p :: subs c ho → R' a = R a := fun a ha => if_neg ha
  refine ⟨ho, R', ⟨hl, fun b o q => ?_, r.subG, fun a o q => ?_, fun i s h => ?_, fun i j c1 c2 q h1 h2 h3 h4 => ?_⟩, hp, hc, fun a ha => ⟨in_ a ha, (foot a ha).1, (foot a ha).2.2⟩, out_⟩
  · by_cases hb : b ∈ p :: subs c ho
    · rw [in_ b hb] at q; exact q
    · rw [out_ b hb] at q; exact r.subR b o q
  · by_cases hb : a ∈ p :: subs c ho
    · exact .inl (foot a hb).2.1
    · rw [out_ a hb] at q; exact r.dis a o q
  · obtain ⟨h', e', hi⟩ := lft i s h
    have := r.slot i s h'
    rw [e'] at this
    cases s with
    | un => trivial
    | dat d => exact this
    | scr ns => exact this
    | ref t => exact this
    | own c1 =>
      obtain ⟨q, hq, e2, a1, a2, a3, a4⟩ := this
      have off : ∀ a, Ft H c1 σ[i]? a → a ∉ p :: subs c ho := fun a fa z => by
        have := r.apart i ρ.length c1 _ _ h' e0 (by rw [e']; exact fa) (ftm a z)
        omega
      exact ⟨q, hq, e2, a1, a2, by rw [out_ q (off q (.self e2 a1))]; exact a3, OwOk_mono (.refl _) (fun a ha o w1 _ w3 w4 => ⟨w1, w3, by rw [out_ a (off a ⟨q, hq, e2, a1, .inr ha⟩)]; exact w4⟩) a4⟩
  · obtain ⟨g1, f1, _⟩ := lft i _ h1
    obtain ⟨g2, f2, _⟩ := lft j _ h2
    exact r.apart i j c1 c2 q g1 g2 (by rw [f1]; exact h3) (by rw [f2]; exact h4)
/-- and back -/
theorem Rep.pushM {K : Fr} {R R' G H G2 H2 : Hp} {ρ : Ro} {σ : St} {p : Addr} {c : Ow} {ho : HO} (r : Rep K R' G2 H2 ρ σ) (hp : H p = some ho) (hc : OwOk K R G H p c ho) (hin : ∀ a, a ∈ p :: subs c ho → R' a = H a ∧ R a = none ∧ ∃ o, H a = some o ∧ ¬ isT o) (hout : ∀ a, a ∉ p :: subs c ho → R' a = R a) (s : Same G G2) : Rep K R G2 H2 (ρ ++ [.own c]) (σ ++ [some (.ref p)]) := by
  have now : ∀ a, a ∈ p :: subs c ho → ∀ o, H a = some o → H2 a = some o ∧ G2 a = none ∧ R a = none := fun a ha o h => by
    obtain ⟨w1, w2, o', w3, w4⟩ := hin a ha
    rw [h] at w3
    cases w3
    rw [h] at w1
    exact ⟨r.subR a o w1, (r.dis a o w1).resolve_right w4, w2⟩
  have hc2 : OwOk K R G2 H2 p c ho := OwOk_mono s (fun a ha o w1 _ _ _ => now a (List.mem_cons_of_mem _ ha) o w1) hc
  obtain ⟨hp2, gp2, rp2⟩ := now p List.mem_cons_self ho hp
  have key : ∀ (i : Nat) (s : Sl), (ρ ++ [Sl.own c])[i]? = some s → (ρ[i]? = some s ∧ (σ ++ [some (.ref p)])[i]? = σ[i]? ∧ i < ρ.length) ∨ (s = .own c ∧ (σ ++ [some (.ref p)])[i]? = some (some (.ref p)) ∧ i = ρ.length) := fun i s h => by
    by_cases hi : i < ρ.length
    · rw [List.getElem?_append_left hi] at h
      exact .inl ⟨h, List.getElem?_append_left (by rw [← r.len]; exact hi), hi⟩
    · have h1 : (ρ ++ [Sl.own c])[i]? = [Sl.own c][i - ρ.length]? := List.getElem?_append_right (by omega)
      rw [h1] at h
      have e : i - ρ.length = 0 := by
        cases q : i - ρ.length with
        | zero => rfl
        | succ k => rw [q] at h; simp at h
      rw [e] at h
      refine .inr ⟨(Option.some.inj h).symm, ?_, by omega⟩
      rw [List.getElem?_append_right (by rw [← r.len]; omega), ← r.len, e]
      rfl
  have np : ∀ (i : Nat) (c1 : Ow) (q : Addr), ρ[i]? = some (.own c1) → Ft H2 c1 σ[i]? q → R' q = none := fun i c1 q h f => by
    obtain ⟨q', ho', e', hq', _, rq, x⟩ := r.slot i _ h
    obtain ⟨q1, ho1, e1, h1, m⟩ := f
    rw [e'] at e1
    cases e1
    rw [hq'] at h1
    cases h1
    rcases m with rfl | m
    · exact rq
    · obtain ⟨_, _, _, _, rq⟩ := OwOk_subs x q m
      exact rq
  have off : ∀ (i : Nat) (c1 : Ow) (q : Addr), ρ[i]? = some (.own c1) → Ft H2 c1 σ[i]? q → q ∉ p :: subs c ho := fun i c1 q h f z => by
    obtain ⟨w1, w2, o, w3, _⟩ := hin q z
    rw [np i c1 q h f, w3] at w1
    cases w1
  refine ⟨by simp [r.len], fun b o q => ?_, r.subG, fun a o q => ?_, fun i s h => ?_, fun i j c1 c2 q h1 h2 h3 h4 => ?_⟩
  · by_cases hb : b ∈ p :: subs c ho
    · rw [(hin b hb).2.1] at q; cases q
    · exact r.subR b o (by rw [hout b hb]; exact q)
  · by_cases hb : a ∈ p :: subs c ho
    · rw [(hin a hb).2.1] at q; cases q
    · exact r.dis a o (by rw [hout a hb]; exact q)
  · rcases key i s h with ⟨h, e, _⟩ | ⟨rfl, e, _⟩
    · rw [e]
      have := r.slot i s h
      cases s with
      | un => trivial
      | dat d => exact this
      | scr ns => exact this
      | ref t => exact this
      | own c1 =>
        obtain ⟨q, hq, e', a1, a2, a3, a4⟩ := this
        exact ⟨q, hq, e', a1, a2, by rw [hout q (off i c1 q h (.self e' a1))] at a3; exact a3, OwOk_mono (.refl _) (fun a ha o w1 _ w3 w4 => ⟨w1, w3, by rw [hout a (off i c1 a h ⟨q, hq, e', a1, .inr ha⟩)] at w4; exact w4⟩) a4⟩
    · rw [e]; exact ⟨p, ho, rfl, hp2, gp2, rp2, hc2⟩
  · have own : ∀ {o a}, o = some (some (V.ref p)) → Ft H2 c o a → a ∈ p :: subs c ho := fun {o a} eo f => by
      obtain ⟨q1, ho1, e1, w1, m⟩ := f
      rw [eo] at e1
      cases e1
      rw [hp2] at w1
      cases w1
      exact List.mem_cons.mpr m
    rcases key i _ h1 with ⟨h1, e1, _⟩ | ⟨ec, e1, l1⟩
    · rw [e1] at h3
      rcases key j _ h2 with ⟨h2, e2, _⟩ | ⟨ec, e2, _⟩
      · rw [e2] at h4
        exact r.apart i j c1 c2 q h1 h2 h3 h4
      · cases ec
        exact absurd (own e2 h4) (off i c1 _ h1 h3)
    · cases ec
      rcases key j _ h2 with ⟨h2, e2, _⟩ | ⟨_, e2, l2⟩
      · rw [e2] at h4
        exact absurd (own e1 h3) (off j c2 _ h2 h4)
      · rw [l1, l2]
/-- the last value goes to a slot -/
theorem Rep.moveO {K : Fr} {R G H : Hp} {ρ : Ro} {σ : St} {p : Addr} {c : Ow} (r : Rep K R G H (ρ ++ [.own c]) (σ ++ [some (.ref p)])) (i : Nat) : Rep K R G H (ρ.set i (.own c)) (σ.set i (some (.ref p))) := by
  have hl : ρ.length = σ.length := by have := r.len; simp at this; exact this
  have e0 : (ρ ++ [Sl.own c])[ρ.length]? = some (.own c) := by simp
  have e1 : (σ ++ [some (V.ref p)])[ρ.length]? = some (some (.ref p)) := by rw [hl]; simp
  have lft : ∀ (j : Nat) (s : Sl), ρ[j]? = some s → (ρ ++ [Sl.own c])[j]? = some s ∧ (σ ++ [some (V.ref p)])[j]? = σ[j]? ∧ j < ρ.length := fun j s h => by
    have hj : j < ρ.length := (List.getElem?_eq_some_iff.mp h).1
    exact ⟨by rw [List.getElem?_append_left hj]; exact h, List.getElem?_append_left (by rw [← hl]; exact hj), hj⟩
  -- where a slot comes from
  have from_ : ∀ (j : Nat) (s : Sl), (ρ.set i (.own c))[j]? = some s → ∃ j', (ρ ++ [Sl.own c])[j']? = some s ∧ (σ.set i (some (.ref p)))[j]? = (σ ++ [some (V.ref p)])[j']? ∧ (j = i ∧ j' = ρ.length ∨ j ≠ i ∧ j' = j ∧ j < ρ.length) := fun j s h => by
    by_cases hj : i = j
    · subst hj
      have hi : i < ρ.length := by
        have := (List.getElem?_eq_some_iff.mp h).1
        simpa using this
      rw [List.getElem?_set_self hi] at h
      exact ⟨ρ.length, by rw [e0]; exact h, by rw [e1, List.getElem?_set_self (by rw [← hl]; exact hi)], .inl ⟨rfl, rfl⟩⟩
    · rw [List.getElem?_set_ne hj] at h
      obtain ⟨g, f, l⟩ := lft j s h
      exact ⟨j, g, by rw [List.getElem?_set_ne hj, f], .inr ⟨Ne.symm hj, rfl, l⟩⟩
  refine ⟨by simpa using hl, r.subR, r.subG, r.dis, fun j s h => ?_, fun j k c1 c2 q h1 h2 h3 h4 => ?_⟩
  · obtain ⟨j', g, f, _⟩ := from_ j s h
    rw [f]
    exact r.slot j' s g
  · obtain ⟨j', g1, f1, w1⟩ := from_ j _ h1
    obtain ⟨k', g2, f2, w2⟩ := from_ k _ h2
    rw [f1] at h3
    rw [f2] at h4
    have := r.apart j' k' c1 c2 q g1 g2 h3 h4
    rcases w1 with ⟨a1, a2⟩ | ⟨a1, a2, a3⟩ <;> rcases w2 with ⟨b1, b2⟩ | ⟨b1, b2, b3⟩ <;> omega
/-- an expression that makes an object of its own -/
def tMO (K : Fr) (m : M Ow) : TE := fun σ H Q => ∃ R G ρ c ρ', Rep K R G H ρ σ ∧ m ρ = some (c, ρ') ∧ ∀ G' H' p, Same G G' → Rep K R G' H' (ρ' ++ [.own c]) (σ ++ [some (.ref p)]) → Q (.ref p) H'
abbrev QO (X : Cx) (e : Expr) (m : M Ow) : Prop := PE X e (tMO X.K m)
/-- values that go to slots: data, or objects of one's own -/
def vOk (K : Fr) (R G : Hp) : Sl → V → Prop := fun _ _ => True
def tMX (K : Fr) (m : M (List Sl)) : TA := fun σ H Q => ∃ R G ρ ss ρ', Rep K R G H ρ σ ∧ m ρ = some (ss, ρ') ∧ ∀ G' H' vs, Same G G' → vs.length = ss.length → Rep K R G' H' (ρ' ++ ss) (σ ++ vs.map some) → Q vs H'
abbrev QX (X : Cx) (e : List Expr) (m : M (List Sl)) : Prop := PA X e (tMX X.K m)
theorem Rep.pushNew {K : Fr} {R G H : Hp} {ρ : Ro} {σ : St} {p : Addr} {c : Ow} {ho : HO} (r : Rep K R G H ρ σ) (hp : H p = none) (hc : OwOk K R G (upd H p ho) p c ho) (h0 : subs c ho = [] := by rfl) : Rep K R G (upd H p ho) (ρ ++ [.own c]) (σ ++ [some (.ref p)]) := by
  have hR := r.subR.free hp
  have r1 := r.grow (Gr.junk (o := ho) r.subG hp)
  refine Rep.pushO (ho := ho) ⟨r1.len, fun b o q => ?_, r1.subG, fun a o q => ?_, fun i s h => ?_, r1.apart⟩ hc hR h0
  · by_cases hb : b = p
    · subst hb; rw [upd_same] at q ⊢; exact q
    · rw [upd_ne hb] at q; exact r1.subR b o q
  · by_cases hb : a = p
    · subst hb; exact .inl (r.subG.free hp)
    · rw [upd_ne hb] at q; exact r1.dis a o q
  · have := r.slot i s h
    have t1 := r1.slot i s h
    cases s with
    | un => trivial
    | dat d => exact t1
    | scr ns => exact t1
    | ref t => exact t1
    | own c1 =>
      obtain ⟨q, hq, e', a1, a2, a3, a4⟩ := this
      have np : q ≠ p := ne_of_none a1 hp
      exact ⟨q, hq, e', by rw [upd_ne np]; exact a1, a2, by rw [upd_ne np]; exact a3, OwOk_mono (.refl _) (fun a ha o w1 _ w3 w4 => ⟨by rw [upd_ne (ne_of_none w1 hp)]; exact w1, w3, by rw [upd_ne (ne_of_none w1 hp)]; exact w4⟩) a4⟩

section
variable {X : Cx} {pos : Pos} {e : Expr} {es : List Expr}
def oLst (as : M (List D)) : M Ow := fun ρ => (as ρ).bind fun p => if p.1.length ≤ 1000000 then some (.lst p.1, p.2) else none
theorem qo_lst {m : M (List D)} (h : QA X es m) : QO X (.List es pos) (oLst m) := by
  refine PE.imp (pe_lst h) fun σ H Q h => ?_
  obtain ⟨R, G, ρ, c, ρ', rp, e, k⟩ := h
  unfold oLst at e
  rw [Option.bind_eq_some_iff] at e
  obtain ⟨⟨ds, ρ1⟩, h1, e⟩ := e
  split at e
  · rename_i hl
    cases e
    refine ⟨R, G, ρ, ds, _, rp, h1, fun G1 H1 vs s1 r1 d1 => ⟨by rw [d1.length]; exact size_of hl, fun p hp => ?_⟩⟩
    exact k G1 _ p s1 (r1.pushNew hp (ho := .lst vs) d1)
  · cases e
/-- a list that an expression makes anew is to be owned: from its reading -/
def xNil : M (List Sl) := fun ρ => some ([], ρ)
def xDat (a : M D) (r : M (List Sl)) : M (List Sl) := fun ρ => (a ρ).bind fun p => (r p.2).map fun q => (.dat p.1 :: q.1, q.2)
def xOwn (a : M Ow) (r : M (List Sl)) : M (List Sl) := fun ρ => (a ρ).bind fun p => (r p.2).map fun q => (.own p.1 :: q.1, q.2)
theorem qx_nil : QX X [] xNil := PA.imp pa_nil fun σ H Q h => by
  obtain ⟨R, G, ρ, d, ρ', rp, e, k⟩ := h
  cases e
  exact k G H [] (.refl _) rfl (by simpa using rp)
end
/-- appended values: a middle one is put ahead -/
theorem Rep.swapEnd {K : Fr} {R G H : Hp} {ρ : Ro} {σ : St} {ss : List Sl} {vs : List V} {s : Sl} {v : V} (hl : ρ.length = σ.length) (hl2 : ss.length = vs.length) (r : Rep K R G H ((ρ ++ ss) ++ [s]) ((σ ++ vs.map some) ++ [some v])) : Rep K R G H (ρ ++ (s :: ss)) (σ ++ (v :: vs).map some) := by
  -- slot i of the new one is slot f i of the old one
  have hn : (ρ ++ ss).length = (σ ++ vs.map some).length := by simp [hl, hl2]
  let f : Nat → Nat := fun i => if i < ρ.length then i else if i = ρ.length then (ρ ++ ss).length else i - 1
  have get : ∀ {α : Type} (a b : List α) (x : α) (i : Nat), a.length = ρ.length → b.length = ss.length → (a ++ (x :: b))[i]? = ((a ++ b) ++ [x])[f i]? ∨ (a ++ (x :: b))[i]? = none := fun a b x i ha hb => by
    by_cases h1 : i < ρ.length
    · left
      show _ = ((a ++ b) ++ [x])[if i < ρ.length then i else _]?
      rw [if_pos h1, List.getElem?_append_left (by omega), List.append_assoc, List.getElem?_append_left (by omega)]
    · by_cases h2 : i = ρ.length
      · left
        show _ = ((a ++ b) ++ [x])[if i < ρ.length then i else if i = ρ.length then (ρ ++ ss).length else _]?
        rw [if_neg h1, if_pos h2, List.getElem?_append_right (by omega)]
        have : (ρ ++ ss).length = (a ++ b).length := by simp [ha, hb]
        rw [this]
        have e : i - a.length = 0 := by omega
        rw [e]
        simp
      · by_cases h3 : i < ρ.length + ss.length + 1
        · left
          show _ = ((a ++ b) ++ [x])[if i < ρ.length then i else if i = ρ.length then (ρ ++ ss).length else i - 1]?
          rw [if_neg h1, if_neg h2, List.getElem?_append_right (by omega)]
          obtain ⟨k, hk⟩ : ∃ k, i - a.length = k + 1 := ⟨i - a.length - 1, by omega⟩
          rw [hk, List.getElem?_cons_succ, List.getElem?_append_left (by simp; omega), List.getElem?_append_right (by omega)]
          congr 1
          omega
        · right
          rw [List.getElem?_eq_none]
          simp; omega
  have inj : ∀ i j, f i = f j → i < ρ.length + ss.length + 1 → j < ρ.length + ss.length + 1 → i = j := fun i j h h1 h2 => by
    have e : ∀ i, f i = if i < ρ.length then i else if i = ρ.length then (ρ ++ ss).length else i - 1 := fun _ => rfl
    rw [e, e] at h
    have hL : (ρ ++ ss).length = ρ.length + ss.length := by simp
    rw [hL] at h
    split at h <;> split at h <;> (try split at h) <;> (try split at h) <;> omega
  have g1 := fun i => get ρ ss s i rfl rfl
  have g2 := fun i => get σ (vs.map some) (some v) i hl.symm (by simp [hl2])
  have key : ∀ (i : Nat) (t : Sl), (ρ ++ (s :: ss))[i]? = some t → ((ρ ++ ss) ++ [s])[f i]? = some t ∧ (σ ++ (v :: vs).map some)[i]? = ((σ ++ vs.map some) ++ [some v])[f i]? ∧ i < ρ.length + ss.length + 1 := fun i t h => by
    have hi : i < ρ.length + ss.length + 1 := by
      have := (List.getElem?_eq_some_iff.mp h).1
      simp at this
      omega
    refine ⟨?_, ?_, hi⟩
    · rcases g1 i with e | e
      · rw [← e]; exact h
      · rw [e] at h; cases h
    · rcases g2 i with e | e
      · exact e
      · rw [List.getElem?_eq_none_iff] at e
        simp [← hl, ← hl2] at e
        omega
  refine ⟨by simp [hl, hl2], r.subR, r.subG, r.dis, fun i t h => ?_, fun i j c c' p h1 h2 h3 h4 => ?_⟩
  · obtain ⟨a, b, _⟩ := key i t h
    rw [b]; exact r.slot _ _ a
  · obtain ⟨a1, b1, l1⟩ := key i _ h1
    obtain ⟨a2, b2, l2⟩ := key j _ h2
    rw [b1] at h3; rw [b2] at h4
    exact inj i j (r.apart _ _ c c' p a1 a2 h3 h4) l1 l2
section
variable {X : Cx} {pos : Pos} {e : Expr} {es : List Expr}
theorem qx_dat {m : M D} {n : M (List Sl)} (ha : QE X e m) (hr : QX X es n) (hs : starEach (e :: es) X.env = (false, eval e X.env) :: starEach es X.env := by rfl) : QX X (e :: es) (xDat m n) := by
  refine PA.imp (pa_cons ha hr hs) fun σ H Q h => ?_
  obtain ⟨R, G, ρ, ss, ρ', rp, e, k⟩ := h
  unfold xDat at e
  rw [Option.bind_eq_some_iff] at e
  obtain ⟨⟨x, ρ1⟩, h1, e⟩ := e
  rw [Option.map_eq_some_iff] at e
  obtain ⟨⟨y, ρ2⟩, h2, e⟩ := e
  cases e
  refine ⟨R, G, ρ, x, ρ1, rp, h1, fun G1 H1 v1 s1 r1 d1 => ?_⟩
  refine ⟨R, G1, ρ1, y, _, r1, h2, fun G2 H2 v2 s2 l2 r2 => ?_⟩
  have hl := r2.len
  have hlen : ρ2.length = σ.length := by simp [l2] at hl; exact hl
  refine k G2 H2 (v1 :: v2) (s1.trans s2) (by simp [l2]) ?_
  exact Rep.swapEnd hlen l2.symm (r2.pushD (Dq_mono s2 d1))
theorem qx_own {m : M Ow} {n : M (List Sl)} (ha : QO X e m) (hr : QX X es n) (hs : starEach (e :: es) X.env = (false, eval e X.env) :: starEach es X.env := by rfl) : QX X (e :: es) (xOwn m n) := by
  refine PA.imp (pa_cons ha hr hs) fun σ H Q h => ?_
  obtain ⟨R, G, ρ, ss, ρ', rp, e, k⟩ := h
  unfold xOwn at e
  rw [Option.bind_eq_some_iff] at e
  obtain ⟨⟨x, ρ1⟩, h1, e⟩ := e
  rw [Option.map_eq_some_iff] at e
  obtain ⟨⟨y, ρ2⟩, h2, e⟩ := e
  cases e
  refine ⟨R, G, ρ, x, ρ1, rp, h1, fun G1 H1 p s1 r1 => ?_⟩
  obtain ⟨ho, R', r1', hp, hc, hin, hout⟩ := r1.popM
  refine ⟨R', G1, ρ1, y, _, r1', h2, fun G2 H2 v2 s2 l2 r2 => ?_⟩
  have hl := r2.len
  have hlen : ρ2.length = σ.length := by simp [l2] at hl; exact hl
  refine k G2 H2 (.ref p :: v2) (s1.trans s2) (by simp [l2]) ?_
  exact Rep.swapEnd hlen l2.symm (r2.pushM hp hc hin hout s2)

/-! ### assignments -/
theorem qs_asg {tg : Expr} {m : M D} {vs : List Nat} {g : D → Ro → Option Ro} (he : QE X e m) (hg : QG X vs tg g) (hs : swapsWithSole [tg] e pos.line X.env = pure false := by rfl) (hw : swappedStores [tg] e X.env = pure none := by rfl)
    (h1 : (assignEach [tg] X.env).map (·.2) = [assign tg X.env] := by rfl) : QS X vs (.Assign [tg] e pos) (sAsg m g) := by
  refine PS.imp (ps_asg he hg hs hw h1) fun E σ H h => ?_
  obtain ⟨R, G, ρ, f, ρ', rp, e, k⟩ := h
  unfold sAsg at e
  rw [Option.bind_eq_some_iff] at e
  obtain ⟨⟨x, ρ1⟩, h1, e⟩ := e
  rw [Option.map_eq_some_iff] at e
  obtain ⟨ρ2, h2, e⟩ := e
  cases e
  refine ⟨R, G, ρ, x, ρ1, rp, h1, fun G1 H1 v1 s1 r1 d1 => ?_⟩
  exact ⟨R, G1, ρ1, x, _, r1, d1, h2, fun σ' r' _ fr => k G1 H1 σ' s1 r' fr⟩
theorem qs_set (i : Nat) {x : Str} {m : M D} {pos' : Pos} (hN : X.N.Nodup) (he : QE X e m) (hi : X.N[i]? = some x := by rfl) (hx : Loc X.env.scope x := by first | exact Or.inl rfl | exact Or.inr rfl) (hs : swapsWith e (some (.Name x pos')) pos.line X.env = pure false := by rfl) (hf : X.fn x = true ∨ X.env.scope.names.lookup x = some .local := by first | exact .inl rfl | exact .inr rfl | assumption) :
    QS X [i] (.Assign [.Name x pos'] e pos) (sAsg m (gSet i)) := by
  refine PS.imp (ps_set hN hi hx he hs hf) fun E σ H h => ?_
  obtain ⟨R, G, ρ, f, ρ', rp, e, k⟩ := h
  unfold sAsg at e
  rw [Option.bind_eq_some_iff] at e
  obtain ⟨⟨x, ρ1⟩, h1, e⟩ := e
  cases e
  exact ⟨R, G, ρ, x, ρ1, rp, h1, fun G1 H1 v1 s1 r1 d1 => k G1 H1 _ s1 (r1.setD d1) (fun j hj => List.getElem?_set_ne fun z => hj (by simp [z]))⟩
/-- x = an object of one's own -/
def sOwn (i : Nat) (a : M Ow) : MS := fun ρ => (a ρ).map fun p => (.nx, p.2.set i (.own p.1))
theorem qs_own (i : Nat) {x : Str} {m : M Ow} {pos' : Pos} (hN : X.N.Nodup) (he : QO X e m) (hi : X.N[i]? = some x := by rfl) (hx : Loc X.env.scope x := by first | exact Or.inl rfl | exact Or.inr rfl) (hs : swapsWith e (some (.Name x pos')) pos.line X.env = pure false := by rfl) (hf : X.fn x = true ∨ X.env.scope.names.lookup x = some .local := by first | exact .inl rfl | exact .inr rfl | assumption) :
    QS X [i] (.Assign [.Name x pos'] e pos) (sOwn i m) := by
  refine PS.imp (ps_set hN hi hx he hs hf) fun E σ H h => ?_
  obtain ⟨R, G, ρ, f, ρ', rp, e, k⟩ := h
  unfold sOwn at e
  rw [Option.map_eq_some_iff] at e
  obtain ⟨⟨x, ρ1⟩, h1, e⟩ := e
  cases e
  exact ⟨R, G, ρ, x, ρ1, rp, h1, fun G1 H1 p s1 r1 => k G1 H1 _ s1 (r1.moveO i) (fun j hj => List.getElem?_set_ne fun z => hj (by simp [z]))⟩
/-- the last two values go to slots -/
theorem Rep.move {K : Fr} {R G H : Hp} {ρ : Ro} {σ : St} {s : Sl} {v : V} (hl : ρ.length = σ.length) (hs : ∀ ns, s ≠ .scr ns) (r : Rep K R G H (ρ ++ [s]) (σ ++ [some v])) (i : Nat) : Rep K R G H (ρ.set i s) (σ.set i (some v)) := by
  have e0 : (ρ ++ [s])[ρ.length]? = some s := by simp
  have e1 : (σ ++ [some v])[ρ.length]? = some (some v) := by rw [hl]; simp
  have base : Rep K R G H ρ σ := by
    refine ⟨hl, r.subR, r.subG, r.dis, fun j t h => ?_, fun j k c c' p h1 h2 h3 h4 => ?_⟩
    · have hj : j < ρ.length := (List.getElem?_eq_some_iff.mp h).1
      have := r.slot j t (by rw [List.getElem?_append_left hj]; exact h)
      rw [List.getElem?_append_left (by rw [← hl]; exact hj)] at this
      exact this
    · have hj : j < ρ.length := (List.getElem?_eq_some_iff.mp h1).1
      have hk : k < ρ.length := (List.getElem?_eq_some_iff.mp h2).1
      exact r.apart j k c c' p (by rw [List.getElem?_append_left hj]; exact h1) (by rw [List.getElem?_append_left hk]; exact h2) (by rw [List.getElem?_append_left (by rw [← hl]; exact hj)]; exact h3) (by rw [List.getElem?_append_left (by rw [← hl]; exact hk)]; exact h4)
  have so := r.slot _ _ e0
  rw [e1] at so
  cases s with
  | un => exact base.forget i _
  | dat d =>
    obtain ⟨v', e, x⟩ := so
    cases e
    exact base.setD x
  | scr ns => exact absurd rfl (hs ns)
  | ref t =>
    exact base.setT so
  | own c =>
    obtain ⟨p, ho, e, _⟩ := so
    cases e
    exact r.moveO i
def noScr : Sl → Bool
  | .scr _ => false
  | _ => true
def sPar2 (i j : Nat) (as : M (List Sl)) : MS := fun ρ => (as ρ).bind fun p => match p.1 with
  | [x, y] => if noScr x && noScr y && decide (j < p.2.length) then some (.nx, (p.2.set i x).set j y) else none
  | _ => none
theorem noScr_ne {s : Sl} (h : noScr s = true) : ∀ ns, s ≠ .scr ns := fun ns e => by subst e; cases h
theorem qs_par {i j : Nat} {x y : Str} {a b : Expr} {m : M (List Sl)} {px py pt : Pos} {kt k2 pt2} (hN : X.N.Nodup) (ha : QX X [a, b] m) (hc : X.calm = true := by rfl) (hi : X.N[i]? = some x := by rfl) (hj : X.N[j]? = some y := by rfl) (hij : i ≠ j := by decide)
    (hx : X.env.scope.names.lookup x = some .local := by rfl) (hy : X.env.scope.names.lookup y = some .local := by rfl)
    (hw : swappedStores [.Tuple [.Name x px, .Name y py] kt pt] (.Tuple [a, b] k2 pt2) X.env = pure (some [x, y]) := by rfl)
    (hs : swapsWithSole [.Tuple [.Name x px, .Name y py] kt pt] (.Tuple [a, b] k2 pt2) pos.line X.env = pure false := by rfl) :
    QS X [i, j] (.Assign [.Tuple [.Name x px, .Name y py] kt pt] (.Tuple [a, b] k2 pt2) pos) (sPar2 i j m) := by
  refine PS.imp (ps_par hc hN hi hj hij hx hy ha hw hs) fun E σ H h => ?_
  obtain ⟨R, G, ρ, f, ρ', rp, e, k⟩ := h
  unfold sPar2 at e
  rw [Option.bind_eq_some_iff] at e
  obtain ⟨⟨ss, ρ1⟩, h1, e⟩ := e
  refine ⟨R, G, ρ, ss, ρ1, rp, h1, fun G1 H1 vs s1 l1 r1 => ?_⟩
  match ss, vs, l1, e with
  | [s, t], [v, w], _, e =>
    simp only at e
    split at e
    · rename_i hb
      cases e
      rw [Bool.and_eq_true, Bool.and_eq_true] at hb
      have hjl : j < ρ1.length := of_decide_eq_true hb.2
      have hl := r1.len
      have hlen : ρ1.length = σ.length := by simp at hl; exact hl
      refine ⟨v, w, rfl, k G1 H1 _ s1 ?_ (fun l hl => by rw [List.getElem?_set_ne fun z => hl (by simp [z]), List.getElem?_set_ne fun z => hl (by simp [z])])⟩
      have r2 : Rep X.K R G1 H1 ((ρ1 ++ [s]) ++ [t]) ((σ ++ [some v]) ++ [some w]) := by simpa using r1
      have r3 := Rep.move (by simp [hlen]) (noScr_ne hb.1.2) r2 j
      rw [List.set_append_left _ _ hjl, List.set_append_left _ _ (by rw [← hlen]; exact hjl)] at r3
      have r4 := Rep.move (by simp [hlen]) (noScr_ne hb.1.1) r3 i
      rw [List.set_comm _ _ hij, List.set_comm _ _ hij]
      exact r4
    · cases e
  | [], _, _, e => cases e
  | [_], _, _, e => cases e
  | _ :: _ :: _ :: _, _, _, e => cases e
end
end QL
set_option Elab.async false
set_option linter.all false
set_option maxRecDepth 100000
set_option maxHeartbeats 1000000
namespace QL
open PySem PySem.Spec PyProof.Rows L2

/-! ### targets of several names -/
/-- several targets -/
def tMGs (K : Fr) (vs : List Nat) (fs : List (D → Ro → Option Ro)) : TGs := fun us σ H Q => ∃ R G ρ ds ρ', Rep K R G H ρ σ ∧ DqAll K G us ds ∧ gTupF fs ds ρ = some ρ' ∧ ∀ σ', Rep K R G H ρ' σ' → σ'.length = σ.length → (∀ j : Nat, j ∉ vs → σ'[j]? = σ[j]?) → Q σ' H
theorem PGs.imp {X : Cx} {e : List Expr} {t t' : TGs} (h : PGs X e t) (w : ∀ v σ H Q, t' v σ H Q → t v σ H Q) : PGs X e t' := ⟨fun pins s σ H v u Q I r q => h.run pins s σ H v u Q I r (w v σ H Q q)⟩
abbrev QGs (X : Cx) (vs : List Nat) (e : List Expr) (fs : List (D → Ro → Option Ro)) : Prop := PGs X e (tMGs X.K vs fs)
section
variable {X : Cx} {pos : Pos} {e : Expr} {es : List Expr}
theorem qgs_nil : QGs X [] [] [] := PGs.imp pgs_nil fun v σ H Q h => by
  obtain ⟨R, G, ρ, ds, ρ', rp, dd, e, k⟩ := h
  cases dd with
  | nil =>
    cases e
    exact ⟨rfl, k σ rp rfl fun _ _ => rfl⟩
  | cons _ _ => cases e
theorem qgs_cons {vs ws : List Nat} {f : D → Ro → Option Ro} {fs : List (D → Ro → Option Ro)} (h1 : QG X vs e f) (h2 : QGs X ws es fs) (hs : (assignEach (e :: es) X.env).map (·.2) = assign e X.env :: (assignEach es X.env).map (·.2) := by rfl) : QGs X (vs ++ ws) (e :: es) (f :: fs) := by
  refine PGs.imp (pgs_cons h1 h2 hs) fun us σ H Q h => ?_
  obtain ⟨R, G, ρ, ds, ρ', rp, dd, e, k⟩ := h
  cases dd with
  | nil => cases e
  | cons d1 d2 =>
    unfold gTupF at e
    rw [Option.bind_eq_some_iff] at e
    obtain ⟨ρ1, h1, e⟩ := e
    refine ⟨_, _, rfl, R, G, ρ, _, ρ1, rp, d1, h1, fun σ1 r1 l1 j1 => ?_⟩
    refine ⟨R, G, ρ1, _, ρ', r1, d2, e, fun σ2 r2 l2 j2 => ?_⟩
    refine k σ2 r2 (l2.trans l1) fun j hj => ?_
    rw [j2 j fun z => hj (List.mem_append_right _ z), j1 j fun z => hj (List.mem_append_left _ z)]
theorem qg_tup {vs : List Nat} {fs : List (D → Ro → Option Ro)} {k : Nat} (h : QGs X vs es fs) (hc : X.calm = true := by rfl)
    (hn : (assignEach es X.env).length = fs.length := by rfl) (hst : (assignEach es X.env).findIdx? (·.1) = none := by rfl) : QG X vs (.Tuple es k pos) (gTup fs) := by
  refine PG.imp (pg_tup hc h hn hst) fun v σ H Q h => ?_
  obtain ⟨R, G, ρ, d, ρ', rp, dd, e, k⟩ := h
  unfold gTup at e
  rw [Option.bind_eq_some_iff] at e
  obtain ⟨ds, h1, e⟩ := e
  cases d <;> cases h1
  cases dd with
  | tup hs ha =>
    rename_i a xs
    refine ⟨a, xs, rfl, SqT_mono rp.subG hs, ?_, R, G, ρ, _, ρ', rp, ha, e, k⟩
    rw [ha.length]
    have : ∀ (fs : List (D → Ro → Option Ro)) (ds : List D) (ρ ρ' : Ro), gTupF fs ds ρ = some ρ' → ds.length = fs.length := by
      intro fs
      induction fs with
      | nil => intro ds ρ ρ' h; cases ds <;> first | rfl | cases h
      | cons f fs ih =>
        intro ds ρ ρ' h
        cases ds with
        | nil => cases h
        | cons d ds =>
          unfold gTupF at h
          rw [Option.bind_eq_some_iff] at h
          obtain ⟨ρ1, _, h⟩ := h
          simp [ih ds ρ1 ρ' h]
    exact this fs _ _ _ e
end

/-! ### walks -/
theorem DqAll.idx {K : Fr} {G : Hp} {vs : List V} {ds : List D} {i : Nat} (h : DqAll K G vs ds) {d : D} {v : V} (hd : ds[i]? = some d) (hv : vs[i]? = some v) : Dq K G v d := by
  obtain ⟨v', e, x⟩ := h.get hd
  rw [hv] at e
  cases e
  exact x
theorem walk_list {K : Fr} {G : Hp} {a : Addr} {ds : List D} (h : Dq K G (.ref a) (.list ds)) : WalkD K (Itl K a) G ds := by
  cases h with
  | lst ha hs =>
    rename_i xs
    have sq : ∀ G' H, Same G G' → Same G' H → SqL K H a xs := fun G' H s1 s2 => SqL.of (s2 _ _ (s1 _ _ ha))
    refine ⟨fun i G' H s1 s2 hi => ⟨xs, xs[i]'(by rw [hs.length]; exact hi), sq G' H s1 s2, by simp⟩, fun i G' H s1 s2 hi => ⟨xs, sq G' H s1 s2, by rw [hs.length]; exact hi⟩, fun i G' H v H' d s1 s2 hd hy => ?_⟩
    obtain ⟨rfl, hx⟩ := hy
    exact ⟨G', Gr.refl s2, Dq_mono s1 (hs.idx hd (hx xs (sq G' _ s1 s2)))⟩
theorem walk_tup {K : Fr} {G : Hp} {a : Addr} {ds : List D} (h : Dq K G (.ref a) (.tuple ds)) : WalkD K (Itt K a) G ds := by
  cases h with
  | tup ha hs =>
    rename_i xs
    have sq : ∀ G' H, Same G G' → Same G' H → SqT K H a xs := fun G' H s1 s2 => SqT_mono s2 (SqT_mono s1 ha)
    refine ⟨fun i G' H s1 s2 hi => ⟨xs, xs[i]'(by rw [hs.length]; exact hi), sq G' H s1 s2, by simp⟩, fun i G' H s1 s2 hi => ⟨xs, sq G' H s1 s2, by rw [hs.length]; exact hi⟩, fun i G' H v H' d s1 s2 hd hy => ?_⟩
    obtain ⟨rfl, hx⟩ := hy
    exact ⟨G', Gr.refl s2, Dq_mono s1 (hs.idx hd (hx xs (sq G' _ s1 s2)))⟩
def intsD (lo : Int) (n : Nat) : List D := (List.range n).map fun (i : Nat) => .int (lo + i)
theorem walk_range {K : Fr} {G : Hp} {lo : Int} {n : Nat} : WalkD K (Itr lo n) G (intsD lo n) := by
  have hl : (intsD lo n).length = n := by simp [intsD]
  refine ⟨fun i G' H s1 s2 hi => by rw [hl] at hi; exact hi, fun i G' H s1 s2 hi => by rw [hl] at hi; exact hi, fun i G' H v H' d s1 s2 hd hy => ?_⟩
  obtain ⟨rfl, rfl⟩ := hy
  refine ⟨G', Gr.refl s2, ?_⟩
  have hi : i < n := by
    have := (List.getElem?_eq_some_iff.mp hd).1
    rw [hl] at this
    exact this
  have : d = .int (lo + i) := by
    simp [intsD, hi] at hd
    exact hd.symm
  subst this
  exact .int _
def asSeq : D → Option (List D)
  | .list ds => some ds
  | .tuple ds => some ds
  | _ => none
def iSeq (m : M D) : M (List D) := fun ρ => (m ρ).bind fun p => (asSeq p.1).map fun xs => (xs, p.2)
def rng1 : List D → Option (List D)
  | [.int j] => if j.natAbs < 2 ^ 62 then some (intsD 0 j.toNat) else none
  | _ => none
def rng2 : List D → Option (List D)
  | [.int i, .int j] => if i.natAbs < 2 ^ 62 ∧ j.natAbs < 2 ^ 62 then some (intsD i (j - i).toNat) else none
  | _ => none
def iApp (f : List D → Option (List D)) (m : M (List D)) : M (List D) := fun ρ => (m ρ).bind fun p => (f p.1).map fun xs => (xs, p.2)
section
variable {X : Cx} {pos p : Pos} {tg e : Expr} {es : List Expr}
theorem PI.or {t t' : TI} (h : PI X tg e t) (h' : PI X tg e t') : PI X tg e (fun σ H Q => t σ H Q ∨ t' σ H Q) := ⟨fun pins s σ H Q I q => by
  rcases q with q | q
  · exact h.run pins s σ H Q I q
  · exact h'.run pins s σ H Q I q⟩
theorem qi_seq {m : M D} (he : QE X e m) : QI X tg e (iSeq m) := by
  refine PI.imp (PI.or (pi_list he) (pi_tup he)) fun σ H Q h => ?_
  obtain ⟨R, G, ρ, ds, ρ', rp, e, k⟩ := h
  unfold iSeq at e
  rw [Option.bind_eq_some_iff] at e
  obtain ⟨⟨x, ρ1⟩, h1, e⟩ := e
  rw [Option.map_eq_some_iff] at e
  obtain ⟨xs, h2, e⟩ := e
  cases e
  cases x <;> cases h2
  · refine .inl ⟨R, G, ρ, _, _, rp, h1, fun G1 H1 v1 s1 r1 d1 => ?_⟩
    cases id d1 with
    | lst ha hs => exact ⟨_, rfl, ⟨_, SqL.of (r1.subG _ _ ha)⟩, k G1 H1 _ s1 r1 (walk_list d1)⟩
  · refine .inr ⟨R, G, ρ, _, _, rp, h1, fun G1 H1 v1 s1 r1 d1 => ?_⟩
    cases id d1 with
    | tup ha hs => exact ⟨_, rfl, ⟨_, SqT_mono r1.subG ha⟩, k G1 H1 _ s1 r1 (walk_tup d1)⟩
theorem iApp_some {f : List D → Option (List D)} {m : M (List D)} {ρ ρ' : Ro} {xs : List D} (h : iApp f m ρ = some (xs, ρ')) : ∃ ds, m ρ = some (ds, ρ') ∧ f ds = some xs := by
  unfold iApp at h
  rw [Option.bind_eq_some_iff] at h
  obtain ⟨⟨x, ρ1⟩, h1, h⟩ := h
  rw [Option.map_eq_some_iff] at h
  obtain ⟨xs, h2, h⟩ := h
  cases h
  exact ⟨x, h1, h2⟩
theorem qi_range1 {a : Expr} {m : M (List D)} (hm : X.mg "range" = none) (ha : QA X [a] m) (hg : Gl X "range" := by rfl) (hs : starEach [a] X.env = [(false, eval a X.env)] := by rfl) : QI X tg (.Call (.Name "range" p) [a] [] pos) (iApp rng1 m) := by
  refine PI.imp (pi_range1 hg hm ha hs) fun σ H Q h => ?_
  obtain ⟨R, G, ρ, ds, ρ', rp, e, k⟩ := h
  obtain ⟨xs, h1, h2⟩ := iApp_some e
  refine ⟨R, G, ρ, _, _, rp, h1, fun G1 H1 v1 s1 r1 d1 => ?_⟩
  unfold rng1 at h2
  split at h2
  · split at h2
    · rename_i hb
      cases h2
      cases d1 with
      | cons a b =>
        cases a
        cases b
        exact ⟨_, rfl, by omega, by omega, k G1 H1 _ s1 r1 walk_range⟩
    · cases h2
  · cases h2
theorem qi_range2 {a b : Expr} {m : M (List D)} (hm : X.mg "range" = none) (ha : QA X [a, b] m) (hg : Gl X "range" := by rfl) (hs : starEach [a, b] X.env = [(false, eval a X.env), (false, eval b X.env)] := by rfl) (hs2 : starEach [b] X.env = [(false, eval b X.env)] := by rfl) : QI X tg (.Call (.Name "range" p) [a, b] [] pos) (iApp rng2 m) := by
  refine PI.imp (pi_range2 hg hm ha hs hs2) fun σ H Q h => ?_
  obtain ⟨R, G, ρ, ds, ρ', rp, e, k⟩ := h
  obtain ⟨xs, h1, h2⟩ := iApp_some e
  refine ⟨R, G, ρ, _, _, rp, h1, fun G1 H1 v1 s1 r1 d1 => ?_⟩
  unfold rng2 at h2
  split at h2
  · split at h2
    · rename_i hb
      cases h2
      cases d1 with
      | cons a b =>
        cases a
        cases b with
        | cons a b =>
          cases a
          cases b
          exact ⟨_, _, rfl, ⟨by omega, by omega, by omega, by omega⟩, k G1 H1 _ s1 r1 walk_range⟩
    · cases h2
  · cases h2

/-! ### for -/
theorem qs_for {body : List Stmt} {vs : List Nat} {m : M (List D)} {g : D → Ro → Option Ro} {b : MS} (hi : QI X tg e m) (hg : QG X vs tg g) {W : List Nat} (hb : QSs X W body b) (hp : PassesOwn (model X.prog X.w) X.A X.env X.xe := by exact PassesOwn.never) (hc : X.calm = true := by rfl)
    (hs : ∀ x, foldedSetIterable e X.env x = pure x := by intro _; rfl) : QS X (vs ++ W) (.For tg e body [] pos) (sFor m g b) := by
  refine PS.imp (ps_for hp hc hi hg hb hs) fun E σ H h => ?_
  obtain ⟨R, G, ρ, f, ρ', rp, e, k⟩ := h
  unfold sFor at e
  rw [Option.bind_eq_some_iff] at e
  obtain ⟨⟨xs, ρ1⟩, h1, e⟩ := e
  refine ⟨R, G, ρ, xs, ρ1, rp, h1, fun G1 H1 J s1 r1 wk => ?_⟩
  refine ⟨fun i n σ2 H2 => n = xs.length - i ∧ i ≤ xs.length ∧ Frm (vs ++ W) σ σ2 ∧ ∃ G2 ρ2, Same G1 G2 ∧ Rep X.K R G2 H2 ρ2 σ2 ∧ forM g b (xs.drop i) ρ2 = some (f, ρ'), ⟨xs.length, rfl, Nat.zero_le _, .refl _ _, G1, ρ1, .refl _, r1, e⟩, ?_⟩
  rintro i n σ2 H2 ⟨rfl, hi, fr2, G2, ρ2, s2, r2, e2⟩
  by_cases hlt : i < xs.length
  · right
    have ed : xs.drop i = xs[i] :: xs.drop (i + 1) := List.drop_eq_getElem_cons hlt
    rw [ed] at e2
    unfold forM at e2
    rw [Option.bind_eq_some_iff] at e2
    obtain ⟨ρ3, h3, e2⟩ := e2
    rw [Option.bind_eq_some_iff] at e2
    obtain ⟨⟨f4, ρ4⟩, h4, e2⟩ := e2
    refine ⟨wk.go i G2 H2 s2 r2.subG hlt, fun σ5 H5 => Frm (vs ++ W) σ σ5 ∧ ∃ G5 ρ5, Same G1 G5 ∧ Rep X.K R G5 H5 ρ5 σ5 ∧ forM g b (xs.drop (i + 1)) ρ5 = some (f, ρ'), fun σ5 H5 ⟨fr5, G5, ρ5, s5, r5, e5⟩ => ⟨xs.length - (i + 1), by omega, rfl, hlt, fr5, G5, ρ5, s5, r5, e5⟩, fun x H' hy => ?_⟩
    obtain ⟨G3, g3, d3⟩ := wk.yld i G2 H2 x H' _ s2 r2.subG (List.getElem?_eq_getElem hlt) hy
    refine ⟨R, G3, ρ2, _, ρ3, r2.grow g3, d3, h3, fun σ6 r6 _ j6 => ?_⟩
    refine ⟨R, G3, ρ3, f4, ρ4, r6, h4, ?_⟩
    have s3 : Same G1 G3 := s2.trans g3.gg
    have frm : ∀ σ7, Frm W σ6 σ7 → Frm (vs ++ W) σ σ7 := fun σ7 z => by
      have q : Frm (vs ++ W) σ2 σ7 := Frm.trans j6 z
      have q2 := fr2.trans q
      exact q2.mono fun j hj => by
        simp only [List.mem_append] at hj ⊢
        rcases hj with (h | h) | (h | h)
        · exact .inl h
        · exact .inr h
        · exact .inl h
        · exact .inr h
    cases f4 with
    | nx => exact fun G7 H7 σ7 s7 r7 f7 => ⟨frm σ7 f7, G7, ρ4, s3.trans s7, r7, e2⟩
    | ct => exact fun G7 H7 σ7 s7 r7 f7 => ⟨frm σ7 f7, G7, ρ4, s3.trans s7, r7, e2⟩
    | bk =>
      cases e2
      exact fun G7 H7 σ7 s7 r7 f7 => k G7 H7 σ7 ((s1.trans s3).trans s7) r7 (frm σ7 f7)
    | rt d =>
      cases e2
      exact fun G7 H7 σ7 v s7 r7 f7 => k G7 H7 σ7 v ((s1.trans s3).trans s7) r7 (frm σ7 f7)
  · left
    have ei : i = xs.length := by omega
    subst ei
    rw [List.drop_length] at e2
    cases e2
    exact ⟨wk.stop _ G2 H2 s2 r2.subG (Nat.le_refl _), k G2 H2 σ2 (s1.trans s2) r2 fr2⟩
theorem qs_while {c : Expr} {body : List Stmt} {m : M Bool} {b : MS} {W : List Nat} (fuel : Ro → Nat) (hc : QT X c m) (hb : QSs X W body b) (hp : PassesOwn (model X.prog X.w) X.A X.env X.xe := by exact PassesOwn.never) : QS X W (.While c body [] pos) (sWhile fuel m b) := by
  refine PS.imp (ps_while hp hc hb) fun E σ H h => ?_
  obtain ⟨R, G, ρ, f, ρ', rp, e, k⟩ := h
  unfold sWhile at e
  refine ⟨fun n σ2 H2 => Frm W σ σ2 ∧ ∃ G2 ρ2, Same G G2 ∧ Rep X.K R G2 H2 ρ2 σ2 ∧ whileM m b n ρ2 = some (f, ρ'), ⟨fuel ρ, .refl _ _, G, ρ, .refl _, rp, e⟩, ?_⟩
  rintro n σ2 H2 ⟨fr2, G2, ρ2, s2, r2, e2⟩
  cases n with
  | zero => cases e2
  | succ n =>
    unfold whileM at e2
    rw [Option.bind_eq_some_iff] at e2
    obtain ⟨⟨q, ρ3⟩, h3, e2⟩ := e2
    refine ⟨R, G2, ρ2, q, ρ3, r2, h3, fun G3 H3 s3 r3 => ?_⟩
    cases q with
    | true =>
      rw [if_pos rfl] at e2 ⊢
      rw [Option.bind_eq_some_iff] at e2
      obtain ⟨⟨f4, ρ4⟩, h4, e2⟩ := e2
      have frm : ∀ σ7, Frm W σ2 σ7 → Frm W σ σ7 := fun σ7 z => (fr2.trans z).mono fun j hj => by simpa using hj
      refine ⟨fun σ5 H5 => Frm W σ σ5 ∧ ∃ G5 ρ5, Same G G5 ∧ Rep X.K R G5 H5 ρ5 σ5 ∧ whileM m b n ρ5 = some (f, ρ'), fun σ5 H5 z => ⟨n, Nat.lt_succ_self _, z⟩, R, G3, ρ3, f4, ρ4, r3, h4, ?_⟩
      have s4 : Same G G3 := s2.trans s3
      cases f4 with
      | nx => exact fun G7 H7 σ7 s7 r7 f7 => ⟨frm σ7 f7, G7, ρ4, s4.trans s7, r7, e2⟩
      | ct => exact fun G7 H7 σ7 s7 r7 f7 => ⟨frm σ7 f7, G7, ρ4, s4.trans s7, r7, e2⟩
      | bk =>
        cases e2
        exact fun G7 H7 σ7 s7 r7 f7 => k G7 H7 σ7 (s4.trans s7) r7 (frm σ7 f7)
      | rt d =>
        cases e2
        exact fun G7 H7 σ7 v s7 r7 f7 => k G7 H7 σ7 v (s4.trans s7) r7 (frm σ7 f7)
    | false =>
      rw [if_neg Bool.false_ne_true] at e2 ⊢
      cases e2
      exact k G3 H3 σ2 (s2.trans s3) r3 fr2
end

/-! ### comprehensions -/
def wipeR (ρ : Ro) : List Nat → Ro
  | [] => ρ
  | v :: vs => (wipeR ρ vs).set v .un
theorem wipeR_length (ρ : Ro) : ∀ vs, (wipeR ρ vs).length = ρ.length
  | [] => rfl
  | v :: vs => by unfold wipeR; rw [List.length_set, wipeR_length ρ vs]
theorem Rep.wipe {K : Fr} {R G H : Hp} {ρ : Ro} {σ : St} (r : Rep K R G H ρ σ) : ∀ vs, Rep K R G H (wipeR ρ vs) (L2.wipe σ vs)
  | [] => r
  | v :: vs => by
    unfold wipeR L2.wipe
    exact (Rep.wipe r vs).forget v none
theorem wipe_get (σ : St) : ∀ (vs : List Nat) (j : Nat), (L2.wipe σ vs)[j]? = if j ∈ vs ∧ j < σ.length then some none else σ[j]?
  | [], j => by simp [L2.wipe]
  | v :: vs, j => by
    unfold L2.wipe
    rw [List.getElem?_set, wipe_length, wipe_get σ vs j]
    by_cases h : v = j
    · subst h
      by_cases hl : v < σ.length
      · simp [hl]
      · simp [hl]
    · have : j ≠ v := fun e => h e.symm
      simp [h, this]
theorem wipe_same {σ σ2 : St} {vs : List Nat} (hl : σ2.length = (L2.wipe σ vs).length) (h : ∀ j : Nat, j ∉ vs → σ2[j]? = (L2.wipe σ vs)[j]?) : L2.wipe σ2 vs = L2.wipe σ vs := by
  refine List.ext_getElem? fun j => ?_
  rw [wipe_length] at hl
  rw [wipe_get, wipe_get, hl]
  by_cases hj : j ∈ vs ∧ j < σ.length
  · rw [if_pos hj, if_pos hj]
  · rw [if_neg hj, if_neg hj]
    by_cases hm : j ∈ vs
    · have : ¬ j < σ.length := fun z => hj ⟨hm, z⟩
      rw [List.getElem?_eq_none (by omega), List.getElem?_eq_none (by omega)]
    · rw [h j hm, wipe_get, if_neg hj]
theorem wipe_wipe {σ : St} {vs : List Nat} : ∀ j : Nat, j ∉ vs → (L2.wipe σ vs)[j]? = σ[j]? := fun j hj => by
  rw [wipe_get, if_neg fun z => hj z.1]
/-- what the def's own slots are behind a comprehension: those of its names as they were, where they were data -/
def keepD : Sl → Sl
  | .dat d => .dat d
  | _ => .un
def backR (ρ0 : Ro) (ρ : Ro) : List Nat → Ro
  | [] => ρ
  | v :: vs => (backR ρ0 ρ vs).set v (match ρ0[v]? with | some s => keepD s | none => .un)
theorem backR_rep0 {K : Fr} {R G' H' : Hp} {ρ0 ρ : Ro} {σ : St} (r0 : ∀ (v : Nat) (d : D), ρ0[v]? = some (.dat d) → ∃ x, σ[v]? = some (some x) ∧ Dq K G' x d) : ∀ (vs : List Nat) (ws : List Nat), (∀ v ∈ vs, v ∈ ws) → Rep K R G' H' ρ (L2.wipe σ ws) → Rep K R G' H' (backR ρ0 (wipeR ρ ws) vs) σ := by
  intro vs ws hws r
  -- first: the wiped knowledge holds of σ itself
  have base : Rep K R G' H' (wipeR ρ ws) σ := by
    have hr := r
    have key : ∀ (i : Nat) (s : Sl), (wipeR ρ ws)[i]? = some s → s = .un ∨ (ρ[i]? = some s ∧ (L2.wipe σ ws)[i]? = σ[i]?) := by
      intro i s h
      by_cases hi : i ∈ ws
      · left
        clear r0 r hr hws
        induction ws with
        | nil => cases hi
        | cons v vs ih =>
          unfold wipeR at h
          by_cases hv : v = i
          · subst hv
            rw [List.getElem?_set] at h
            simp only [if_true] at h
            split at h
            · exact (Option.some.inj h).symm
            · cases h
          · rw [List.getElem?_set_ne hv] at h
            exact ih h ((List.mem_cons.mp hi).resolve_left fun e => hv e.symm)
      · right
        refine ⟨?_, wipe_wipe i hi⟩
        clear r0 r hr hws
        induction ws with
        | nil => exact h
        | cons v vs ih =>
          unfold wipeR at h
          rw [List.getElem?_set_ne fun e => hi (by simp [e])] at h
          exact ih h fun z => hi (List.mem_cons_of_mem _ z)
    refine ⟨by rw [wipeR_length, r.len, wipe_length], r.subR, r.subG, r.dis, fun i t h => ?_, fun i j c c' p h1 h2 h3 h4 => ?_⟩
    · rcases key i t h with rfl | ⟨h, e⟩
      · trivial
      · rw [← e]; exact r.slot i t h
    · rcases key i _ h1 with z | ⟨h1, e1⟩
      · cases z
      · rcases key j _ h2 with z | ⟨h2, e2⟩
        · cases z
        · exact r.apart i j c c' p h1 h2 (by rw [e1]; exact h3) (by rw [e2]; exact h4)
  clear r
  induction vs with
  | nil => exact base
  | cons v vs ih =>
    have b := ih fun z hz => hws z (List.mem_cons_of_mem _ hz)
    unfold backR
    cases q : ρ0[v]? with
    | none => exact b.forgetR v
    | some t =>
      cases t with
      | un => exact b.forgetR v
      | scr ns => exact b.forgetR v
      | ref t => exact b.forgetR v
      | own c => exact b.forgetR v
      | dat d =>
        obtain ⟨x, e, dx⟩ := r0 v _ q
        have := b.setD (i := v) dx
        have es : σ.set v (some x) = σ := by
          refine List.ext_getElem? fun j => ?_
          rw [List.getElem?_set]
          split
          · rename_i hj
            subst hj
            split
            · exact e.symm
            · rename_i hl
              rw [List.getElem?_eq_none (by omega)]
          · rfl
        rw [es] at this
        exact this
/-- the turns of a comprehension -/
def lcM (vs : List Nat) (g : D → Ro → Option Ro) (t : M Bool) (m : M D) : List D → Ro → List D → Option (List D × Ro)
  | [], ρ, acc => some (acc, ρ)
  | x :: xs, ρ, acc => (g x ρ).bind fun ρ1 => (t ρ1).bind fun q => if q.1 = true then (m q.2).bind fun p => if acc.length < 1000000 then lcM vs g t m xs (wipeR p.2 vs) (acc ++ [p.1]) else none else lcM vs g t m xs (wipeR q.2 vs) acc
def oLc (vs : List Nat) (it : M (List D)) (g : D → Ro → Option Ro) (t : M Bool) (m : M D) : M (List D) := fun ρ => (it ρ).bind fun p => (lcM vs g t m p.1 (wipeR p.2 vs) []).map fun q => (q.1, backR p.2 (wipeR q.2 vs) vs)
def eLc (vs : List Nat) (it : M (List D)) (g : D → Ro → Option Ro) (t : M Bool) (m : M D) : M D := fun ρ => (oLc vs it g t m ρ).map fun q => (.list q.1, q.2)
def wLc (vs : List Nat) (it : M (List D)) (g : D → Ro → Option Ro) (t : M Bool) (m : M D) : M Ow := fun ρ => (oLc vs it g t m ρ).map fun q => (.lst q.1, q.2)
def cTrue : M Bool := fun ρ => some (true, ρ)
abbrev QTs (X : Cx) (es : List Expr) (m : M Bool) : Prop := PTs X es (tMT X.K m)
theorem PTs.imp {X : Cx} {e : List Expr} {t t' : TT} (h : PTs X e t) (w : ∀ σ H Q, t' σ H Q → t σ H Q) : PTs X e t' := ⟨fun pins s σ H Q I q => h.run pins s σ H Q I (w σ H Q q)⟩
theorem qts_nil {X : Cx} : QTs X [] cTrue := PTs.imp pts_nil fun σ H Q h => by
  obtain ⟨R, G, ρ, b, ρ', rp, e, k⟩ := h
  cases e
  exact k G H (.refl _) rp
theorem qts_one {X : Cx} {e : Expr} {m : M Bool} (h : QT X e m) : QTs X [e] m := pts_one h
theorem Rep.dropLast {K : Fr} {R G H : Hp} {ρ : Ro} {σ : St} {s : Sl} {v : Option V} (r : Rep K R G H (ρ ++ [s]) (σ ++ [v])) : Rep K R G H ρ σ := by
  have hl : ρ.length = σ.length := by have := r.len; simp at this; exact this
  refine ⟨hl, r.subR, r.subG, r.dis, fun j t h => ?_, fun j k c c' p h1 h2 h3 h4 => ?_⟩
  · have hj : j < ρ.length := (List.getElem?_eq_some_iff.mp h).1
    have := r.slot j t (by rw [List.getElem?_append_left hj]; exact h)
    rw [List.getElem?_append_left (by rw [← hl]; exact hj)] at this
    exact this
  · have hj : j < ρ.length := (List.getElem?_eq_some_iff.mp h1).1
    have hk : k < ρ.length := (List.getElem?_eq_some_iff.mp h2).1
    exact r.apart j k c c' p (by rw [List.getElem?_append_left hj]; exact h1) (by rw [List.getElem?_append_left hk]; exact h2) (by rw [List.getElem?_append_left (by rw [← hl]; exact hj)]; exact h3) (by rw [List.getElem?_append_left (by rw [← hl]; exact hk)]; exact h4)
/-- an own list that stands last becomes data -/
theorem Rep.freezeLast {K : Fr} {R G H : Hp} {ρ : Ro} {σ : St} {p : Addr} {ds : List D} (r : Rep K R G H (ρ ++ [.own (.lst ds)]) (σ ++ [some (.ref p)])) : ∃ G', Same G G' ∧ Rep K R G' H ρ σ ∧ Dq K G' (.ref p) (.list ds) := by
  have hl : ρ.length = σ.length := by have := r.len; simp at this; exact this
  obtain ⟨q, vs, e, gg, r', x⟩ := r.freeze (i := ρ.length) (ds := ds) (by simp)
  have e1 : (σ ++ [some (V.ref p)])[ρ.length]? = some (some (.ref p)) := by rw [hl]; simp
  rw [e1] at e
  cases e
  have e2 : (ρ ++ [Sl.own (.lst ds)]).set ρ.length (.dat (.list ds)) = ρ ++ [.dat (.list ds)] := by simp
  rw [e2] at r'
  exact ⟨_, gg, r'.dropLast, x⟩
theorem tLc_core {K : Fr} {vs : List Nat} {it : M (List D)} {g : D → Ro → Option Ro} {t : M Bool} {m : M D} {σ : St} {H : Hp} {Q : VK} {R G : Hp} {ρ : Ro} {out : List D} {ρ' : Ro} (rp : Rep K R G H ρ σ) (e : oLc vs it g t m ρ = some (out, ρ'))
    (k : ∀ G' H' p, Same G G' → Rep K R G' H' (ρ' ++ [.own (.lst out)]) (σ ++ [some (.ref p)]) → Q (.ref p) H') : tLc (tMI K it) (tMG K vs g) (tMT K t) (tM K m) vs σ H Q := by
  unfold oLc at e
  rw [Option.bind_eq_some_iff] at e
  obtain ⟨⟨xs, ρ1⟩, h1, e⟩ := e
  rw [Option.map_eq_some_iff] at e
  obtain ⟨⟨out', ρ2⟩, h2, e⟩ := e
  obtain ⟨rfl, rfl⟩ : out' = out ∧ backR ρ1 (wipeR ρ2 vs) vs = ρ' := by cases e; exact ⟨rfl, rfl⟩
  clear e
  refine ⟨R, G, ρ, xs, ρ1, rp, h1, fun G1 H1 J s1 r1 wk Dd hD => ?_⟩
  have hR : R Dd = none := r1.subR.free hD
  -- in the turns the new list is others'
  refine ⟨fun i n H2 => n = xs.length - i ∧ i ≤ xs.length ∧ ∃ G2 ρ2' acc vacc, Same G1 G2 ∧ Rep K (upd R Dd (.lst vacc)) G2 H2 ρ2' (L2.wipe σ vs) ∧ DqAll K G2 vacc acc ∧ lcM vs g t m (xs.drop i) ρ2' acc = some (out', ρ2), ⟨xs.length, rfl, Nat.zero_le _, G1, wipeR ρ1 vs, [], [], .refl _, ?_, .nil, h2⟩, ?_⟩
  · obtain ⟨ho, r3, hc, _⟩ := ((r1.wipe vs).pushNew (c := .lst []) (ho := .lst []) hD .nil).popO
    have : ho = .lst [] := by
      have a := r3.subR Dd ho upd_same
      rw [upd_same] at a
      exact (Option.some.inj a).symm
    subst this
    exact r3
  · rintro i n H2 ⟨rfl, hi, G2, ρ3, acc, vacc, s2, r2, da, e2⟩
    by_cases hlt : i < xs.length
    · right
      have ed : xs.drop i = xs[i] :: xs.drop (i + 1) := List.drop_eq_getElem_cons hlt
      rw [ed] at e2
      unfold lcM at e2
      rw [Option.bind_eq_some_iff] at e2
      obtain ⟨ρ4, h4, e2⟩ := e2
      rw [Option.bind_eq_some_iff] at e2
      obtain ⟨⟨q, ρ5⟩, h5, e2⟩ := e2
      refine ⟨wk.go i G2 H2 s2 r2.subG hlt, fun H5 => ∃ G5 ρ5 acc vacc, Same G1 G5 ∧ Rep K (upd R Dd (.lst vacc)) G5 H5 ρ5 (L2.wipe σ vs) ∧ DqAll K G5 vacc acc ∧ lcM vs g t m (xs.drop (i + 1)) ρ5 acc = some (out', ρ2), fun H5 ⟨G5, ρ5, acc, vacc, s5, r5, d5, e5⟩ => ⟨xs.length - (i + 1), by omega, rfl, hlt, G5, ρ5, acc, vacc, s5, r5, d5, e5⟩, fun x H' hy => ?_⟩
      obtain ⟨G3, g3, d3⟩ := wk.yld i G2 H2 x H' _ s2 r2.subG (List.getElem?_eq_getElem hlt) hy
      refine ⟨_, G3, ρ3, _, ρ4, r2.grow g3, d3, h4, fun σ6 r6 l6 j6 => ⟨wipe_same l6 j6, ?_⟩⟩
      have hw := wipe_same l6 j6
      refine ⟨_, G3, ρ4, q, ρ5, r6, h5, fun G7 H7 s7 r7 => ?_⟩
      have sA : Same G1 G7 := (s2.trans g3.gg).trans s7
      cases q with
      | true =>
        rw [if_pos rfl] at e2
        refine iteT ?_
        rw [Option.bind_eq_some_iff] at e2
        obtain ⟨⟨y, ρ8⟩, h8, e2⟩ := e2
        refine ⟨_, G7, ρ5, y, ρ8, r7, h8, fun G9 H9 v9 s9 r9 d9 => ?_⟩
        split at e2
        · rename_i hlen
          have dacc := DqAll_mono ((g3.gg.trans s7).trans s9) da
          refine ⟨vacc, r9.subR Dd _ upd_same, ?_, G9, wipeR ρ8 vs, acc ++ [y], vacc ++ [v9], sA.trans s9, ?_, dacc.append (.cons d9 .nil), e2⟩
          · rw [da.length]
            exact Nat.lt_of_lt_of_le hlen (by decide)
          · -- the list is written: by way of an own slot
            have w9 := r9.wipe vs
            rw [hw] at w9
            have p1 := w9.pushO (c := .lst acc) dacc hR
            have hl : (wipeR ρ8 vs).length = (L2.wipe σ vs).length := w9.len
            have p2 := p1.write (i := (wipeR ρ8 vs).length) (c := .lst acc) (c' := .lst (acc ++ [y])) (p := Dd) (ho := .lst (vacc ++ [v9])) (by simp) (by rw [hl]; simp) (dacc.append (.cons d9 .nil))
            have e3 : (wipeR ρ8 vs ++ [Sl.own (.lst acc)]).set (wipeR ρ8 vs).length (.own (.lst (acc ++ [y]))) = wipeR ρ8 vs ++ [.own (.lst (acc ++ [y]))] := by simp
            rw [e3] at p2
            obtain ⟨ho, r3, hc, _⟩ := p2.popO
            have : ho = .lst (vacc ++ [v9]) := by
              have a := r3.subR Dd ho upd_same
              rw [upd_same] at a
              exact (Option.some.inj a).symm
            subst this
            exact r3
        · cases e2
      | false =>
        rw [if_neg Bool.false_ne_true] at e2
        refine iteF ?_
        have w9 := r7.wipe vs
        rw [hw] at w9
        exact ⟨G7, wipeR ρ5 vs, acc, vacc, sA, w9, DqAll_mono (g3.gg.trans s7) da, e2⟩
    · left
      have ei : i = xs.length := by omega
      subst ei
      rw [List.drop_length] at e2
      cases e2
      refine ⟨wk.stop _ G2 H2 s2 r2.subG (Nat.le_refl _), k G2 H2 Dd (s1.trans s2) ?_⟩
      refine Rep.pushO (ho := .lst vacc) ?_ da hR
      -- the def's slots again; the new list is others' still
      have r1' : Rep K (upd R Dd (.lst [])) G1 (upd H1 Dd (.lst [])) ρ1 σ := by
        obtain ⟨ho, r3, hc, _⟩ := (r1.pushNew (c := .lst []) (ho := .lst []) hD .nil).popO
        have : ho = .lst [] := by
          have a := r3.subR Dd ho upd_same
          rw [upd_same] at a
          exact (Option.some.inj a).symm
        subst this
        exact r3
      exact backR_rep0 (fun v d hv => by
        obtain ⟨x, ex, dx⟩ := r1.slot v _ hv
        exact ⟨x, ex, Dq_mono s2 dx⟩) vs vs (fun _ z => z) r2
theorem tLc_of {K : Fr} {vs : List Nat} {it : M (List D)} {g : D → Ro → Option Ro} {t : M Bool} {m : M D} {σ : St} {H : Hp} {Q : VK} (h : tM K (eLc vs it g t m) σ H Q) : tLc (tMI K it) (tMG K vs g) (tMT K t) (tM K m) vs σ H Q := by
  obtain ⟨R, G, ρ, d, ρ', rp, e, k⟩ := h
  unfold eLc at e
  rw [Option.map_eq_some_iff] at e
  obtain ⟨⟨out, ρ1⟩, h1, e⟩ := e
  cases e
  refine tLc_core rp h1 fun G' H' p s r => ?_
  obtain ⟨G2, s2, r2, d2⟩ := r.freezeLast
  exact k G2 H' _ (s.trans s2) r2 d2
theorem tLcO_of {K : Fr} {vs : List Nat} {it : M (List D)} {g : D → Ro → Option Ro} {t : M Bool} {m : M D} {σ : St} {H : Hp} {Q : VK} (h : tMO K (wLc vs it g t m) σ H Q) : tLc (tMI K it) (tMG K vs g) (tMT K t) (tM K m) vs σ H Q := by
  obtain ⟨R, G, ρ, d, ρ', rp, e, k⟩ := h
  unfold wLc at e
  rw [Option.map_eq_some_iff] at e
  obtain ⟨⟨out, ρ1⟩, h1, e⟩ := e
  cases e
  exact tLc_core rp h1 k
section
variable {X : Cx} {elt tg iter : Expr} {ifs : List Expr} {scope : Scope} {pos py spos : Pos} {it : M (List D)} {g : D → Ro → Option Ro} {t : M Bool} {m : M D}
theorem qe_lc (own : List (Str × Nat)) (hN : X.N.Nodup) (hi : QI X tg iter it) (ok : BlkOk X.N X.env.scope scope own)
    (hg : ∀ (s : Shared) (H : Hp) (C : Addr) (cl : List (Str × Addr)) (fp : List Addr), QG (X.blk s H scope (compEnvC scope cl C X.env) fp) (own.map (·.2)) tg g) (ht : ∀ (s : Shared) (H : Hp) (C : Addr) (cl : List (Str × Addr)) (fp : List Addr), QTs (X.blk s H scope (compEnvC scope cl C X.env) fp) ifs t)
    (he : ∀ (s : Shared) (H : Hp) (C : Addr) (cl : List (Str × Addr)) (fp : List Addr), QE (X.blk s H scope (compEnvC scope cl C X.env) fp) elt m) (hc : X.calm = true := by rfl) (hs : ∀ x, foldedSetIterable iter X.env x = pure x := by intro _; rfl) :
    QE X (.ListComp elt [⟨tg, iter, ifs, 0⟩] scope pos) (eLc (own.map (·.2)) it g t m) := PE.imp (pe_lc hc hN hi ok hg ht he hs) fun _ _ _ h => tLc_of h
theorem qo_lc (own : List (Str × Nat)) (hN : X.N.Nodup) (hi : QI X tg iter it) (ok : BlkOk X.N X.env.scope scope own)
    (hg : ∀ (s : Shared) (H : Hp) (C : Addr) (cl : List (Str × Addr)) (fp : List Addr), QG (X.blk s H scope (compEnvC scope cl C X.env) fp) (own.map (·.2)) tg g) (ht : ∀ (s : Shared) (H : Hp) (C : Addr) (cl : List (Str × Addr)) (fp : List Addr), QTs (X.blk s H scope (compEnvC scope cl C X.env) fp) ifs t)
    (he : ∀ (s : Shared) (H : Hp) (C : Addr) (cl : List (Str × Addr)) (fp : List Addr), QE (X.blk s H scope (compEnvC scope cl C X.env) fp) elt m) (hc : X.calm = true := by rfl) (hs : ∀ x, foldedSetIterable iter X.env x = pure x := by intro _; rfl) :
    QO X (.ListComp elt [⟨tg, iter, ifs, 0⟩] scope pos) (wLc (own.map (·.2)) it g t m) := PE.imp (pe_lc hc hN hi ok hg ht he hs) fun _ _ _ h => tLcO_of h
theorem qs_setLc (i : Nat) {y : Str} (own : List (Str × Nat)) (hN : X.N.Nodup) (hi : QI X tg iter it) (ok : BlkOk X.N X.env.scope scope own)
    (hg : ∀ (s : Shared) (H : Hp) (C : Addr) (cl : List (Str × Addr)) (fp : List Addr), QG (X.blk s H scope (compEnvC scope cl C X.env) fp) (own.map (·.2)) tg g) (ht : ∀ (s : Shared) (H : Hp) (C : Addr) (cl : List (Str × Addr)) (fp : List Addr), QTs (X.blk s H scope (compEnvC scope cl C X.env) fp) ifs t)
    (he : ∀ (s : Shared) (H : Hp) (C : Addr) (cl : List (Str × Addr)) (fp : List Addr), QE (X.blk s H scope (compEnvC scope cl C X.env) fp) elt m)
    (hsw : swapsWith (.ListComp elt [⟨tg, iter, ifs, 0⟩] scope pos) (some (.Name y py)) spos.line X.env = pure true := by exact sw_true rfl rfl rfl (by decide +kernel)) (hc : X.calm = true := by rfl) (hy : X.N[i]? = some y := by rfl) (hyl : X.env.scope.names.lookup y = some .local := by rfl) (hs : ∀ x, foldedSetIterable iter X.env x = pure x := by intro _; rfl) :
    QS X [i] (.Assign [.Name y py] (.ListComp elt [⟨tg, iter, ifs, 0⟩] scope pos) spos) (sAsg (eLc (own.map (·.2)) it g t m) (gSet i)) := by
  refine PS.imp (ps_setLc (g := tMG X.K (own.map (·.2)) g) (tt := tMT X.K t) (te := tM X.K m) hc hN hy hyl hsw hi ok hg ht he hs) fun E σ H h => ?_
  obtain ⟨R, G, ρ, f, ρ', rp, e, k⟩ := h
  unfold sAsg at e
  rw [Option.bind_eq_some_iff] at e
  obtain ⟨⟨x, ρ1⟩, h1, e⟩ := e
  cases e
  exact tLc_of ⟨R, G, ρ, x, ρ1, rp, h1, fun G1 H1 v1 s1 r1 d1 => k G1 H1 _ s1 (r1.setD d1) (fun j hj => List.getElem?_set_ne fun z => hj (by simp [z]))⟩
theorem qs_ownLc (i : Nat) {y : Str} (own : List (Str × Nat)) (hN : X.N.Nodup) (hi : QI X tg iter it) (ok : BlkOk X.N X.env.scope scope own)
    (hg : ∀ (s : Shared) (H : Hp) (C : Addr) (cl : List (Str × Addr)) (fp : List Addr), QG (X.blk s H scope (compEnvC scope cl C X.env) fp) (own.map (·.2)) tg g) (ht : ∀ (s : Shared) (H : Hp) (C : Addr) (cl : List (Str × Addr)) (fp : List Addr), QTs (X.blk s H scope (compEnvC scope cl C X.env) fp) ifs t)
    (he : ∀ (s : Shared) (H : Hp) (C : Addr) (cl : List (Str × Addr)) (fp : List Addr), QE (X.blk s H scope (compEnvC scope cl C X.env) fp) elt m)
    (hsw : swapsWith (.ListComp elt [⟨tg, iter, ifs, 0⟩] scope pos) (some (.Name y py)) spos.line X.env = pure true := by exact sw_true rfl rfl rfl (by decide +kernel)) (hc : X.calm = true := by rfl) (hy : X.N[i]? = some y := by rfl) (hyl : X.env.scope.names.lookup y = some .local := by rfl) (hs : ∀ x, foldedSetIterable iter X.env x = pure x := by intro _; rfl) :
    QS X [i] (.Assign [.Name y py] (.ListComp elt [⟨tg, iter, ifs, 0⟩] scope pos) spos) (sOwn i (wLc (own.map (·.2)) it g t m)) := by
  refine PS.imp (ps_setLc (g := tMG X.K (own.map (·.2)) g) (tt := tMT X.K t) (te := tM X.K m) hc hN hy hyl hsw hi ok hg ht he hs) fun E σ H h => ?_
  obtain ⟨R, G, ρ, f, ρ', rp, e, k⟩ := h
  unfold sOwn at e
  rw [Option.map_eq_some_iff] at e
  obtain ⟨⟨x, ρ1⟩, h1, e⟩ := e
  cases e
  exact tLcO_of (K := X.K) ⟨R, G, ρ, x, ρ1, rp, h1, fun G1 H1 p s1 r1 => k G1 H1 _ s1 (r1.moveO i) (fun j hj => List.getElem?_set_ne fun z => hj (by simp [z]))⟩
end
end QL
set_option Elab.async false
set_option linter.all false
set_option maxRecDepth 100000
set_option maxHeartbeats 1000000
namespace QL
open PySem PySem.Spec PyProof.Rows L2

/-! ### operations on data -/
instance (a b : Int) : Decidable (IntMulOk a b) := by unfold IntMulOk; exact inferInstance
def dAdd : D → D → Option D
  | .int a, .int b => some (.int (a + b))
  | .list a, .list b => if a.length + b.length ≤ 1000000 then some (.list (a ++ b)) else none
  | .tuple a, .tuple b => if a ≠ [] ∧ b ≠ [] ∧ a.length + b.length ≤ 1000000 then some (.tuple (a ++ b)) else none
  | .str a, .str b => if a.length + b.length ≤ 1000000 then some (.str (a ++ b)) else none
  | _, _ => none
def dSub : D → D → Option D
  | .int a, .int b => some (.int (a - b))
  | _, _ => none
def dMul : D → D → Option D
  | .int a, .int b => if IntMulOk a b then some (.int (a * b)) else none
  | .list a, .int k => if 0 ≤ k ∧ k ≤ 1000 ∧ a.length ≤ 1000 then some (.list (List.replicate k.toNat a).flatten) else none
  | .tuple a, .int k => if a ≠ [] ∧ 2 ≤ k ∧ k ≤ 1000 ∧ a.length ≤ 1000 then some (.tuple (List.replicate k.toNat a).flatten) else none
  | _, _ => none
def dMod : D → D → Option D
  | .int a, .int b => if b ≠ 0 then some (.int (a.fmod b)) else none
  | _, _ => none
def dDiv : D → D → Option D
  | .int a, .int b => if b ≠ 0 ∧ Builtin.divisionGoesByPylong a b = false then some (.int (a.fdiv b)) else none
  | _, _ => none
def dPow : D → D → Option D
  | .int a, .int b => if 0 ≤ b ∧ b ≤ 1000000 ∧ a.natAbs < 2 ^ 64 then some (.int (a ^ b.toNat)) else none
  | _, _ => none
def dLt : D → D → Option D
  | .int a, .int b => some (.bool (decide (a < b)))
  | _, _ => none
def dLe : D → D → Option D
  | .int a, .int b => some (.bool (decide (a ≤ b)))
  | _, _ => none
def dGt : D → D → Option D
  | .int a, .int b => some (.bool (decide (b < a)))
  | _, _ => none
def dGe : D → D → Option D
  | .int a, .int b => some (.bool (decide (b ≤ a)))
  | _, _ => none
def dEq (x y : D) : Option D := if SeqAt.shaped x = true ∧ SeqAt.shaped y = true then some (.bool (PyData.eqv x y)) else none
def dNe (x y : D) : Option D := if SeqAt.shaped x = true ∧ SeqAt.shaped y = true then some (.bool (!PyData.eqv x y)) else none
def dIs : D → D → Option D
  | .bool a, .bool b => some (.bool (decide (a = b)))
  | .none, .none => some (.bool true)
  | .bool _, .none => some (.bool false)
  | .int _, .none => some (.bool false)
  | .str _, .none => some (.bool false)
  | .list _, .none => some (.bool false)
  | .tuple _, .none => some (.bool false)
  | _, _ => none
def dIsNot (x y : D) : Option D := (dIs x y).bind fun d => match d with
  | .bool b => some (.bool (!b))
  | _ => none
def dIx : D → D → Option D
  | .list a, .int i => atI a i
  | .tuple a, .int i => atI a i
  | _, _ => none
def flatD : D → Bool
  | .none => true
  | .bool _ => true
  | .int _ => true
  | .str _ => true
  | _ => false
def toV : D → V
  | .none => .non
  | .bool b => .bl b
  | .int i => .int i
  | .str s => .str s
  | _ => .non
def dIn (x y : D) : Option D := (asSeq y).bind fun ys => if flatD x && ys.all flatD then some (.bool (inV (toV x) (ys.map toV))) else none
def dNotIn (x y : D) : Option D := (asSeq y).bind fun ys => if flatD x && ys.all flatD then some (.bool (!inV (toV x) (ys.map toV))) else none

section
variable {K : Fr}
theorem opD_int {C : Int → Int → Prop} {g : Int → Int → V} {f : D → D → Option D} (h : ∀ dx dy d, f dx dy = some d → ∃ i j, dx = .int i ∧ dy = .int j ∧ C i j ∧ ∀ G, Dq K G (g i j) d) : OpD K (rI C g) f := by
  intro G H x y dx dy d Q s hx hy e k
  obtain ⟨i, j, rfl, rfl, c, hd⟩ := h dx dy d e
  cases hx
  cases hy
  exact ⟨i, j, rfl, rfl, c, k G H _ (Gr.refl s) (hd G)⟩
theorem opD_int0 {g : Int → Int → V} {f : D → D → Option D} (h : ∀ dx dy d, f dx dy = some d → ∃ i j, dx = .int i ∧ dy = .int j ∧ ∀ G, Dq K G (g i j) d) : OpD K (rI0 g) f := by
  intro G H x y dx dy d Q s hx hy e k
  obtain ⟨i, j, rfl, rfl, hd⟩ := h dx dy d e
  cases hx
  cases hy
  exact ⟨i, j, rfl, rfl, k G H _ (Gr.refl s) (hd G)⟩
theorem d_sub : OpD K (rI0 fun i j => .int (i - j)) dSub := opD_int0 fun dx dy d e => by
  unfold dSub at e; split at e
  · cases e; exact ⟨_, _, rfl, rfl, fun _ => .int _⟩
  · cases e
theorem d_mod : OpD K (rI (fun _ j => j ≠ 0) fun i j => .int (i.fmod j)) dMod := opD_int fun dx dy d e => by
  unfold dMod at e; split at e
  · split at e
    · rename_i h; cases e; exact ⟨_, _, rfl, rfl, h, fun _ => .int _⟩
    · cases e
  · cases e
theorem d_pow : OpD K (rI CPow fun i j => .int (i ^ j.toNat)) dPow := opD_int fun dx dy d e => by
  unfold dPow at e; split at e
  · split at e
    · rename_i h; cases e; exact ⟨_, _, rfl, rfl, h, fun _ => .int _⟩
    · cases e
  · cases e
def CDivX (i j : Int) : Prop := j ≠ 0 ∧ Builtin.divisionGoesByPylong i j = false
theorem op_fdivX {X : Cx} : OpR X (binaryOp .FloorDiv) (rI CDivX fun i j => .int (i.fdiv j)) := opI fun i j _ _ _ _ _ hc q => floordiv_int hc.1 q (.inl hc.2)
theorem d_div : OpD K (rI CDivX fun i j => .int (i.fdiv j)) dDiv := opD_int fun dx dy d e => by
  unfold dDiv at e; split at e
  · split at e
    · rename_i h; cases e; exact ⟨_, _, rfl, rfl, h, fun _ => .int _⟩
    · cases e
  · cases e
theorem d_lt : OpD K (rI0 fun i j => .bl (decide (i < j))) dLt := opD_int0 fun dx dy d e => by
  unfold dLt at e; split at e
  · cases e; exact ⟨_, _, rfl, rfl, fun _ => .bl _⟩
  · cases e
theorem d_le : OpD K (rI0 fun i j => .bl (decide (i ≤ j))) dLe := opD_int0 fun dx dy d e => by
  unfold dLe at e; split at e
  · cases e; exact ⟨_, _, rfl, rfl, fun _ => .bl _⟩
  · cases e
theorem d_gt : OpD K (rI0 fun i j => .bl (decide (j < i))) dGt := opD_int0 fun dx dy d e => by
  unfold dGt at e; split at e
  · cases e; exact ⟨_, _, rfl, rfl, fun _ => .bl _⟩
  · cases e
theorem d_ge : OpD K (rI0 fun i j => .bl (decide (j ≤ i))) dGe := opD_int0 fun dx dy d e => by
  unfold dGe at e; split at e
  · cases e; exact ⟨_, _, rfl, rfl, fun _ => .bl _⟩
  · cases e
theorem d_eq : OpD K (rEqD K) dEq := by
  intro G H x y dx dy d Q s hx hy e k
  unfold dEq at e
  split at e
  · rename_i h
    cases e
    exact ⟨dx, dy, Dq.dp s hx (shaped_lay h.1), Dq.dp s hy (shaped_lay h.2), h.1, h.2, k G H _ (Gr.refl s) (.bl _)⟩
  · cases e
theorem d_ne : OpD K (rNeD K) dNe := by
  intro G H x y dx dy d Q s hx hy e k
  unfold dNe at e
  split at e
  · rename_i h
    cases e
    exact ⟨dx, dy, Dq.dp s hx (shaped_lay h.1), Dq.dp s hy (shaped_lay h.2), h.1, h.2, k G H _ (Gr.refl s) (.bl _)⟩
  · cases e
/-- + -/
abbrev rAddA (K : Fr) : R2 := fun x y H Q => (rI0 fun i j => .int (i + j)) x y H Q ∨ (rCat x y H Q ∨ (rCatT K x y H Q ∨ (∃ i j, x = V.str i ∧ y = V.str j ∧ i.length + j.length ≤ sizeLine ∧ Q (.str (i ++ j)) H)))
theorem op_addA {X : Cx} : OpR X (binaryOp .Add) (rAddA X.K) := op_add.or (op_cat.or (op_catT.or op_add_str))
theorem d_add : OpD K (rAddA K) dAdd := by
  intro G H x y dx dy d Q s hx hy e k
  unfold dAdd at e
  split at e
  · cases e; cases hx; cases hy
    exact .inl ⟨_, _, rfl, rfl, k G H _ (Gr.refl s) (.int _)⟩
  · split at e
    · rename_i hl
      cases e
      cases hx with
      | lst h1 a1 =>
        cases hy with
        | lst h2 a2 =>
          refine .inr (.inl ⟨_, _, _, _, rfl, rfl, s _ _ h1, s _ _ h2, by rw [a1.length, a2.length]; exact size_of hl, fun p hp => k _ _ _ (Gr.new s hp) ?_⟩)
          exact .lst upd_same (DqAll_mono (Gr.new s hp).gg (a1.append a2))
    · cases e
  · split at e
    · rename_i hl
      cases e
      cases hx with
      | tup h1 a1 =>
        cases hy with
        | tup h2 a2 =>
          have ne : ∀ {vs : List V} {ds : List D}, DqAll K G vs ds → ds ≠ [] → vs ≠ [] := fun a h z => by
            subst z; cases a; exact h rfl
          refine .inr (.inr (.inl ⟨_, _, _, _, rfl, rfl, SqT_mono s h1, SqT_mono s h2, ne a1 hl.1, by rw [a1.length, a2.length]; exact size_of hl.2.2, fun z => absurd z (ne a2 hl.2.1), fun _ p hp => k _ _ _ (Gr.new s hp) ?_⟩))
          exact .tup (SqT.of upd_same) (DqAll_mono (Gr.new s hp).gg (a1.append a2))
    · cases e
  · split at e
    · rename_i hl
      cases e
      cases hx
      cases hy
      exact .inr (.inr (.inr ⟨_, _, rfl, rfl, size_of hl, k G H _ (Gr.refl s) (.str _)⟩))
    · cases e
  · cases e
theorem DqAll.rep {G : Hp} {vs : List V} {ds : List D} (h : DqAll K G vs ds) : ∀ k : Nat, DqAll K G (List.replicate k vs).flatten (List.replicate k ds).flatten
  | 0 => .nil
  | k + 1 => by
    rw [List.replicate_succ, List.replicate_succ, List.flatten_cons, List.flatten_cons]
    exact h.append (DqAll.rep h k)
/-- * -/
abbrev rMulA (K : Fr) : R2 := fun x y H Q => (rI IntMulOk fun i j => .int (i * j)) x y H Q ∨ (rRep x y H Q ∨ rRepT K x y H Q)
theorem op_mulA {X : Cx} : OpR X (binaryOp .Mult) (rMulA X.K) := (opI fun _ _ _ _ _ _ _ hc q => mul_int q hc).or (op_rep.or op_repT)
theorem d_mul : OpD K (rMulA K) dMul := by
  intro G H x y dx dy d Q s hx hy e k
  unfold dMul at e
  split at e
  · split at e
    · rename_i hc
      cases e; cases hx; cases hy
      exact .inl ⟨_, _, rfl, rfl, hc, k G H _ (Gr.refl s) (.int _)⟩
    · cases e
  · split at e
    · rename_i hl
      cases e
      cases hx with
      | lst h1 a1 =>
        cases hy
        refine .inr (.inl ⟨_, _, _, rfl, rfl, s _ _ h1, by omega, by omega, ?_, fun p hp => k _ _ _ (Gr.new s hp) ?_⟩)
        · rw [a1.length]
          refine size_of (Nat.le_trans (Nat.mul_le_mul hl.2.2 (show Int.toNat _ ≤ 1000 by omega)) (by decide))
        · exact .lst upd_same (DqAll_mono (Gr.new s hp).gg (a1.rep _))
    · cases e
  · split at e
    · rename_i hl
      cases e
      cases hx with
      | tup h1 a1 =>
        cases hy
        refine .inr (.inr ⟨_, _, _, rfl, rfl, SqT_mono s h1, fun z => ?_, hl.2.1, hl.2.2.1, by rw [a1.length]; exact hl.2.2.2, fun p hp => k _ _ _ (Gr.new s hp) ?_⟩)
        · subst z; cases a1; exact hl.1 rfl
        · exact .tup (SqT.of upd_same) (DqAll_mono (Gr.new s hp).gg (a1.rep _))
    · cases e
  · cases e
/-- is, is not -/
abbrev rIsA : R2 := fun x y H Q => rIsB x y H Q ∨ (y = .non ∧ Q (.bl (decide (x = .non))) H)
abbrev rIsNotA : R2 := fun x y H Q => rNotB x y H Q ∨ (y = .non ∧ Q (.bl (!decide (x = .non))) H)
theorem op_isA {X : Cx} : OpR X (compareOp .Is) rIsA := op_isBl.or op_isN
theorem op_isNotA {X : Cx} : OpR X (compareOp .IsNot) rIsNotA := op_notBl.or op_notN
theorem d_is : OpD K rIsA dIs := by
  intro G H x y dx dy d Q s hx hy e k
  unfold dIs at e
  split at e <;> first | (cases e; done) | skip
  · cases e; cases hx; cases hy
    exact .inl ⟨_, _, rfl, rfl, k G H _ (Gr.refl s) (.bl _)⟩
  all_goals
    cases e; cases hx; cases hy
    refine .inr ⟨rfl, ?_⟩
    exact k G H _ (Gr.refl s) (.bl _)
theorem d_isNot : OpD K rIsNotA dIsNot := by
  intro G H x y dx dy d Q s hx hy e k
  unfold dIsNot at e
  rw [Option.bind_eq_some_iff] at e
  obtain ⟨z, h, e⟩ := e
  unfold dIs at h
  split at h <;> first | (cases h; done) | skip
  · cases h; cases e; cases hx; cases hy
    exact .inl ⟨_, _, rfl, rfl, k G H _ (Gr.refl s) (.bl _)⟩
  all_goals
    cases h; cases e; cases hx; cases hy
    refine .inr ⟨rfl, ?_⟩
    exact k G H _ (Gr.refl s) (.bl _)
/-- in -/
theorem toV_eq {G : Hp} {v : V} {d : D} (h : Dq K G v d) (f : flatD d = true) : toV d = v ∧ flatV v = true := by
  cases h <;> first | exact ⟨rfl, rfl⟩ | cases f
theorem toV_all {G : Hp} : ∀ {vs : List V} {ds : List D}, DqAll K G vs ds → ds.all flatD = true → ds.map toV = vs ∧ vs.all flatV = true
  | _, _, .nil, _ => ⟨rfl, rfl⟩
  | _, _, .cons h t, f => by
    rw [List.all_cons, Bool.and_eq_true] at f
    obtain ⟨a, b⟩ := toV_eq h f.1
    obtain ⟨c, d⟩ := toV_all t f.2
    exact ⟨by rw [List.map_cons, a, c], by rw [List.all_cons, b, d]; rfl⟩
theorem d_in : OpD K (rIn K false) dIn := by
  intro G H x y dx dy d Q s hx hy e k
  unfold dIn at e
  rw [Option.bind_eq_some_iff] at e
  obtain ⟨ys, h, e⟩ := e
  split at e
  · rename_i hf
    cases e
    rw [Bool.and_eq_true] at hf
    obtain ⟨a, b⟩ := toV_eq hx hf.1
    cases dy <;> cases h
    · cases hy with
      | lst h1 a1 =>
        obtain ⟨c, d⟩ := toV_all a1 hf.2
        refine ⟨_, _, rfl, .inl (SqL.of (s _ _ h1)), b, d, ?_⟩
        rw [a, c] at k
        exact k G H _ (Gr.refl s) (.bl _)
    · cases hy with
      | tup h1 a1 =>
        obtain ⟨c, d⟩ := toV_all a1 hf.2
        refine ⟨_, _, rfl, .inr (SqT_mono s h1), b, d, ?_⟩
        rw [a, c] at k
        exact k G H _ (Gr.refl s) (.bl _)
  · cases e
theorem d_notIn : OpD K (rIn K true) dNotIn := by
  intro G H x y dx dy d Q s hx hy e k
  unfold dNotIn at e
  rw [Option.bind_eq_some_iff] at e
  obtain ⟨ys, h, e⟩ := e
  split at e
  · rename_i hf
    cases e
    rw [Bool.and_eq_true] at hf
    obtain ⟨a, b⟩ := toV_eq hx hf.1
    cases dy <;> cases h
    · cases hy with
      | lst h1 a1 =>
        obtain ⟨c, d⟩ := toV_all a1 hf.2
        refine ⟨_, _, rfl, .inl (SqL.of (s _ _ h1)), b, d, ?_⟩
        rw [a, c] at k
        exact k G H _ (Gr.refl s) (.bl _)
    · cases hy with
      | tup h1 a1 =>
        obtain ⟨c, d⟩ := toV_all a1 hf.2
        refine ⟨_, _, rfl, .inr (SqT_mono s h1), b, d, ?_⟩
        rw [a, c] at k
        exact k G H _ (Gr.refl s) (.bl _)
  · cases e
/-- a[i] -/
theorem atI_rel {G : Hp} {vs : List V} {ds : List D} {i : Int} {d : D} (h : DqAll K G vs ds) (e : atI ds i = some d) : ∃ v, atI vs i = some v ∧ Dq K G v d := by
  unfold atI at e ⊢
  rw [h.length]
  rw [Option.bind_eq_some_iff] at e
  obtain ⟨j, h1, e⟩ := e
  obtain ⟨v, h2, h3⟩ := h.get e
  exact ⟨v, by rw [h1]; exact h2, h3⟩
abbrev rIxA (K : Fr) : R2 := fun x y H Q => rIxL K x y H Q ∨ rIxT K x y H Q
theorem ix_A {X : Cx} : IxR X (rIxA X.K) := ix_list.or ix_tup
theorem d_ix : OpD K (rIxA K) dIx := by
  intro G H x y dx dy d Q s hx hy e k
  unfold dIx at e
  split at e
  · cases hy
    cases hx with
    | lst h1 a1 =>
      obtain ⟨v, h2, h3⟩ := atI_rel a1 e
      exact .inl ⟨_, _, _, v, rfl, rfl, SqL.of (s _ _ h1), h2, k G H _ (Gr.refl s) h3⟩
  · cases hy
    cases hx with
    | tup h1 a1 =>
      obtain ⟨v, h2, h3⟩ := atI_rel a1 e
      exact .inr ⟨_, _, _, v, rfl, rfl, SqT_mono s h1, h2, k G H _ (Gr.refl s) h3⟩
  · cases e
end
section
variable {X : Cx} {a b : Expr} {pos : Pos} {m n : M D}
theorem qe_add (ha : QE X a m) (hb : QE X b n) : QE X (.BinOp a .Add b pos) (eOp2 dAdd m n) := qe_op op_addA d_add ha hb
theorem qe_sub (ha : QE X a m) (hb : QE X b n) : QE X (.BinOp a .Sub b pos) (eOp2 dSub m n) := qe_op op_sub d_sub ha hb
theorem qe_mul (ha : QE X a m) (hb : QE X b n) : QE X (.BinOp a .Mult b pos) (eOp2 dMul m n) := qe_op op_mulA d_mul ha hb
theorem qe_mod (ha : QE X a m) (hb : QE X b n) : QE X (.BinOp a .Mod b pos) (eOp2 dMod m n) := qe_op op_modN d_mod ha hb
theorem qe_div (ha : QE X a m) (hb : QE X b n) : QE X (.BinOp a .FloorDiv b pos) (eOp2 dDiv m n) := qe_op op_fdivX d_div ha hb
theorem qe_pow (ha : QE X a m) (hb : QE X b n) : QE X (.BinOp a .Pow b pos) (eOp2 dPow m n) := qe_op op_pow d_pow ha hb
theorem qe_ix (ha : QE X a m) (hb : QE X b n) (hs : PlainIx b := by exact fun _ _ => rfl) : QE X (.Subscript a b pos) (eOp2 dIx m n) := PE.imp (pe_ix ix_A ha hb hs) fun _ _ _ h => tOp_of d_ix h
def eNeg (a : M D) : M D := eOp1 (fun d => match d with | .int i => some (.int (-i)) | _ => none) a
theorem qe_neg (ha : QE X a m) : QE X (.UnaryOp .USub a pos) (eNeg m) := by
  refine PE.imp (pe_un un_neg ha) fun σ H Q h => ?_
  obtain ⟨R, G, ρ, d, ρ', rp, e, k⟩ := h
  unfold eNeg eOp1 at e
  rw [Option.bind_eq_some_iff] at e
  obtain ⟨⟨x, ρ1⟩, h1, e⟩ := e
  rw [Option.map_eq_some_iff] at e
  obtain ⟨z, h2, e⟩ := e
  cases e
  refine ⟨R, G, ρ, x, _, rp, h1, fun G1 H1 v1 s1 r1 d1 => ?_⟩
  cases x <;> cases h2
  cases d1
  exact ⟨_, rfl, k G1 H1 _ s1 r1 (.int _)⟩
end

/-! ### calls of built-ins -/
def dLen : List D → Option D
  | [.list a] => some (.int a.length)
  | [.tuple a] => some (.int a.length)
  | _ => none
def dAbs : List D → Option D
  | [.int i] => some (.int (if i < 0 then -i else i))
  | _ => none
def dMin : List D → Option D
  | [.int i, .int j] => some (.int (if j < i then j else i))
  | _ => none
def dMax : List D → Option D
  | [.int i, .int j] => some (.int (if j > i then j else i))
  | _ => none
def bools : List D → Option (List Bool)
  | [] => some []
  | .bool b :: r => (bools r).map fun x => b :: x
  | _ => none
def intsOf : List D → Option (List Int)
  | [] => some []
  | .int b :: r => (intsOf r).map fun x => b :: x
  | _ => none
def dAll : List D → Option D
  | [.list a] => (bools a).map fun bs => .bool (bs.all id)
  | _ => none
def dAny : List D → Option D
  | [.list a] => (bools a).map fun bs => .bool (bs.any id)
  | _ => none
def dSum : List D → Option D
  | [.list a] => (intsOf a).map fun ns => .int ns.sum
  | _ => none
def dList : List D → Option D
  | [.list a] => some (.list a)
  | [.tuple a] => some (.list a)
  | _ => none
def dTuple : List D → Option D
  | [.list a] => some (.tuple a)
  | [.tuple a] => some (.tuple a)
  | _ => none
def dSortedI : List D → Option D
  | [.list a] => (intsOf a).map fun ns => .list ((ns.mergeSort (· ≤ ·)).map .int)
  | _ => none
def dInt : List D → Option D
  | [.int a] => some (.int a)
  | [.bool b] => some (.int (if b then 1 else 0))
  | _ => none
section
variable {K : Fr}
theorem one_of {G : Hp} {vs : List V} {d : D} (h : DqAll K G vs [d]) : ∃ v, vs = [v] ∧ Dq K G v d := by
  cases h with
  | cons a b => cases b; exact ⟨_, rfl, a⟩
theorem two_of {G : Hp} {vs : List V} {d e : D} (h : DqAll K G vs [d, e]) : ∃ v w, vs = [v, w] ∧ Dq K G v d ∧ Dq K G w e := by
  cases h with
  | cons a b =>
    obtain ⟨w, rfl, h⟩ := one_of b
    exact ⟨_, _, rfl, a, h⟩
theorem d_len : CallD K (fun xs H Q => ∃ p ys, xs = [.ref p] ∧ (SqL K H p ys ∨ SqT K H p ys) ∧ Q (.int ys.length) H) dLen := by
  intro G H vs ds d Q s h e k
  unfold dLen at e
  split at e
  · cases e
    obtain ⟨v, rfl, hd⟩ := one_of h
    cases hd with
    | lst h1 a1 => exact ⟨_, _, rfl, .inl (SqL.of (s _ _ h1)), by rw [a1.length]; exact k G H _ (Gr.refl s) (.int _)⟩
  · cases e
    obtain ⟨v, rfl, hd⟩ := one_of h
    cases hd with
    | tup h1 a1 => exact ⟨_, _, rfl, .inr (SqT_mono s h1), by rw [a1.length]; exact k G H _ (Gr.refl s) (.int _)⟩
  · cases e
theorem d_abs : CallD K (fun xs H Q => ∃ i, xs = [V.int i] ∧ Q (.int (if i < 0 then -i else i)) H) dAbs := by
  intro G H vs ds d Q s h e k
  unfold dAbs at e
  split at e
  · cases e
    obtain ⟨v, rfl, hd⟩ := one_of h
    cases hd
    exact ⟨_, rfl, k G H _ (Gr.refl s) (.int _)⟩
  · cases e
theorem d_min : CallD K (fun xs H Q => ∃ i j, xs = [V.int i, .int j] ∧ Q (.int (if j < i then j else i)) H) dMin := by
  intro G H vs ds d Q s h e k
  unfold dMin at e
  split at e
  · cases e
    obtain ⟨v, w, rfl, h1, h2⟩ := two_of h
    cases h1; cases h2
    exact ⟨_, _, rfl, k G H _ (Gr.refl s) (.int _)⟩
  · cases e
theorem d_max : CallD K (fun xs H Q => ∃ i j, xs = [V.int i, .int j] ∧ Q (.int (if j > i then j else i)) H) dMax := by
  intro G H vs ds d Q s h e k
  unfold dMax at e
  split at e
  · cases e
    obtain ⟨v, w, rfl, h1, h2⟩ := two_of h
    cases h1; cases h2
    exact ⟨_, _, rfl, k G H _ (Gr.refl s) (.int _)⟩
  · cases e
theorem bools_of {G : Hp} : ∀ {vs : List V} {ds : List D} {bs : List Bool}, DqAll K G vs ds → bools ds = some bs → vs = bs.map V.bl
  | _, [], bs, .nil, e => by cases e; rfl
  | _, d :: ds, bs, .cons h t, e => by
    cases d <;> first | cases e | skip
    unfold bools at e
    rw [Option.map_eq_some_iff] at e
    obtain ⟨x, h1, e⟩ := e
    cases e
    cases h
    rw [bools_of t h1]
    rfl
theorem ints_of {G : Hp} : ∀ {vs : List V} {ds : List D} {bs : List Int}, DqAll K G vs ds → intsOf ds = some bs → vs = bs.map V.int
  | _, [], bs, .nil, e => by cases e; rfl
  | _, d :: ds, bs, .cons h t, e => by
    cases d <;> first | cases e | skip
    unfold intsOf at e
    rw [Option.map_eq_some_iff] at e
    obtain ⟨x, h1, e⟩ := e
    cases e
    cases h
    rw [ints_of t h1]
    rfl
theorem d_all : CallD K (rAll K) dAll := by
  intro G H vs ds d Q s h e k
  unfold dAll at e
  split at e
  · rw [Option.map_eq_some_iff] at e
    obtain ⟨bs, hb, e⟩ := e
    cases e
    obtain ⟨v, rfl, hd⟩ := one_of h
    cases hd with
    | lst h1 a1 =>
      rw [bools_of a1 hb] at h1
      exact ⟨_, bs, rfl, SqL.of (s _ _ h1), k G H _ (Gr.refl s) (.bl _)⟩
  · cases e
theorem d_any : CallD K (rAny K) dAny := by
  intro G H vs ds d Q s h e k
  unfold dAny at e
  split at e
  · rw [Option.map_eq_some_iff] at e
    obtain ⟨bs, hb, e⟩ := e
    cases e
    obtain ⟨v, rfl, hd⟩ := one_of h
    cases hd with
    | lst h1 a1 =>
      rw [bools_of a1 hb] at h1
      exact ⟨_, bs, rfl, SqL.of (s _ _ h1), k G H _ (Gr.refl s) (.bl _)⟩
  · cases e
theorem d_sum : CallD K (rSum K) dSum := by
  intro G H vs ds d Q s h e k
  unfold dSum at e
  split at e
  · rw [Option.map_eq_some_iff] at e
    obtain ⟨bs, hb, e⟩ := e
    cases e
    obtain ⟨v, rfl, hd⟩ := one_of h
    cases hd with
    | lst h1 a1 =>
      rw [ints_of a1 hb] at h1
      exact ⟨_, bs, rfl, SqL.of (s _ _ h1), k G H _ (Gr.refl s) (.int _)⟩
  · cases e
theorem d_list : CallD K (fun xs H Q => ∃ p ys, xs = [.ref p] ∧ (SqL K H p ys ∨ SqT K H p ys) ∧ ∀ l, H l = none → Q (.ref l) (upd H l (.lst ys))) dList := by
  intro G H vs ds d Q s h e k
  unfold dList at e
  split at e
  · cases e
    obtain ⟨v, rfl, hd⟩ := one_of h
    cases hd with
    | lst h1 a1 => exact ⟨_, _, rfl, .inl (SqL.of (s _ _ h1)), fun p hp => k _ _ _ (Gr.new s hp) (.lst upd_same (DqAll_mono (Gr.new s hp).gg a1))⟩
  · cases e
    obtain ⟨v, rfl, hd⟩ := one_of h
    cases hd with
    | tup h1 a1 => exact ⟨_, _, rfl, .inr (SqT_mono s h1), fun p hp => k _ _ _ (Gr.new s hp) (.lst upd_same (DqAll_mono (Gr.new s hp).gg a1))⟩
  · cases e
theorem d_tuple : CallD K (fun xs H Q => ∃ p ys, xs = [.ref p] ∧ ((SqL K H p ys ∧ ∀ l, H l = none → Q (.ref l) (upd H l (.tup ys))) ∨ (SqT K H p ys ∧ Q (.ref p) H))) dTuple := by
  intro G H vs ds d Q s h e k
  unfold dTuple at e
  split at e
  · cases e
    obtain ⟨v, rfl, hd⟩ := one_of h
    cases hd with
    | lst h1 a1 => exact ⟨_, _, rfl, .inl ⟨SqL.of (s _ _ h1), fun p hp => k _ _ _ (Gr.new s hp) (.tup (SqT.of upd_same) (DqAll_mono (Gr.new s hp).gg a1))⟩⟩
  · cases e
    obtain ⟨v, rfl, hd⟩ := one_of h
    cases id hd with
    | tup h1 a1 => exact ⟨_, _, rfl, .inr ⟨SqT_mono s h1, k G H _ (Gr.refl s) hd⟩⟩
  · cases e
theorem d_int : CallD K (fun xs H Q => (∃ i, xs = [V.int i] ∧ Q (.int i) H) ∨ ∃ k, xs = [V.bl k] ∧ Q (.int (if k then 1 else 0)) H) dInt := by
  intro G H vs ds d Q s h e k
  unfold dInt at e
  split at e
  · cases e
    obtain ⟨v, rfl, hd⟩ := one_of h
    cases hd
    exact .inl ⟨_, rfl, k G H _ (Gr.refl s) (.int _)⟩
  · cases e
    obtain ⟨v, rfl, hd⟩ := one_of h
    cases hd
    exact .inr ⟨_, rfl, k G H _ (Gr.refl s) (.int _)⟩
  · cases e
theorem sorted_one {a b : List Int} (p : a.Perm b) (h1 : a.Pairwise (· ≤ ·)) : a = b.mergeSort (· ≤ ·) := by
  have h2 : (b.mergeSort (· ≤ ·)).Pairwise (· ≤ ·) := by
    have := List.pairwise_mergeSort (le := fun (x y : Int) => decide (x ≤ y)) (fun a b c h1 h2 => by simp at *; omega) (fun a b => by simp; omega) b
    simpa using this
  have p2 : a.Perm (b.mergeSort (· ≤ ·)) := p.trans (List.mergeSort_perm b _).symm
  exact p2.eq_of_pairwise (fun x y _ _ h1 h2 => by omega) h1 h2
theorem d_sortedI : CallD K (rSortedI K) dSortedI := by
  intro G H vs ds d Q s h e k
  unfold dSortedI at e
  split at e
  · rw [Option.map_eq_some_iff] at e
    obtain ⟨bs, hb, e⟩ := e
    cases e
    obtain ⟨v, rfl, hd⟩ := one_of h
    cases hd with
    | lst h1 a1 =>
      rw [ints_of a1 hb] at h1
      refine ⟨_, bs, rfl, SqL.of (s _ _ h1), fun ns' p hp hs hn => k _ _ _ (Gr.new s hn) ?_⟩
      rw [← sorted_one hp hs]
      refine .lst upd_same ?_
      have : ∀ (G : Hp) (l : List Int), DqAll K G (l.map V.int) (l.map PyData.int) := fun G l => by
        induction l with
        | nil => exact .nil
        | cons a r ih => exact .cons (.int _) ih
      exact this _ _
  · cases e
/-- isinstance(x, T), T built in -/
def isaD (T : String) : D → Option Bool
  | .none => kitB "NoneType" T
  | .bool _ => kitB "bool" T
  | .int _ => kitB "int" T
  | .str _ => kitB "str" T
  | .list _ => kitB "list" T
  | .tuple _ => kitB "tuple" T
  | .dict _ => none
end
end QL
set_option Elab.async false
set_option linter.all false
set_option maxRecDepth 100000
set_option maxHeartbeats 1000000
namespace QL
open PySem PySem.Spec PyProof.Rows L2

/-! ### isinstance -/
def isaV (T : String) : D → Option D := fun d => match d with
  | .none => (kitB "NoneType" T).map .bool
  | .bool _ => (kitB "bool" T).map .bool
  | .int _ => (kitB "int" T).map .bool
  | .str _ => (kitB "str" T).map .bool
  | .list _ => (kitB "list" T).map .bool
  | .tuple _ => (kitB "tuple" T).map .bool
  | .dict _ => none
theorem tyX_of {K : Fr} {G H : Hp} {v : V} {d : D} (s : Same G H) (hd : ∀ kvs, d ≠ .dict kvs) (h : Dq K G v d) : ∃ t, TyX K H v (.type t) ∧ (∀ T, isaV T d = (kitB t T).map .bool) := by
  cases h with
  | non => exact ⟨_, .base .non, fun _ => rfl⟩
  | bl b => exact ⟨_, .base (.bl _), fun _ => rfl⟩
  | int b => exact ⟨_, .base (.int _), fun _ => rfl⟩
  | str b => exact ⟨_, .base (.str _), fun _ => rfl⟩
  | lst h1 _ => exact ⟨_, .base (.lst (s _ _ h1)), fun _ => rfl⟩
  | tup h1 _ =>
    rcases h1 with (h1 | ⟨o, h1⟩) | ⟨o, its, n, h1, hc, _⟩
    · exact ⟨_, .base (.tup (s _ _ h1)), fun _ => rfl⟩
    · exact ⟨_, .fTuple (s _ _ h1), fun _ => rfl⟩
    · exact ⟨_, .kTuple h1 hc, fun _ => rfl⟩
  | dic _ _ => exact absurd rfl (hd _)
section
variable {X : Cx} {a e : Expr} {es : List Expr} {pos p p2 : Pos}
theorem qe_isa {m : M D} {T : Str} {n : String} (ha : QE X a m) (hm : X.mg "isinstance" = none) (hT : X.mg T = none) (hg : Gl X "isinstance" := by rfl) (hg2 : Gl X T := by rfl) (hv : bootBuiltins T = some (.type n) := by decide +kernel) (hn : T ≠ "__name__" := by decide) (hd : (T == ("__debug__" : Str)) = false := by decide)
    (h1 : starEach [.Name T p2] X.env = (false, eval (.Name T p2) X.env) :: starEach [] X.env := by rfl) (h2 : starEach [a, .Name T p2] X.env = (false, eval a X.env) :: starEach [.Name T p2] X.env := by rfl) (hpl : (backTo pos (starEach [.Name T p2] X.env)).any (·.1) = false := by rfl) :
    QE X (.Call (.Name "isinstance" p) [a, .Name T p2] [] pos) (eOp1 (isaV n) m) := by
  refine PE.imp (pe_callB call_isi hg hm (by decide +kernel) (pa_cons ha (pa_cons (pe_bltn (v := .ty n) hg2 hT hv rfl hn hd) pa_nil h1) h2) (by decide) (by decide) h2 hpl) fun σ H Q h => ?_
  obtain ⟨R, G, ρ, d, ρ', rp, e, k⟩ := h
  unfold eOp1 at e
  rw [Option.bind_eq_some_iff] at e
  obtain ⟨⟨x, ρ1⟩, h1, e⟩ := e
  rw [Option.map_eq_some_iff] at e
  obtain ⟨z, h2, e⟩ := e
  cases e
  refine ⟨R, G, ρ, x, _, rp, h1, fun G1 H1 v1 s1 r1 d1 => ?_⟩
  obtain ⟨t, ty, ht⟩ := tyX_of r1.subG (fun kvs q => by rw [q] at h2; cases h2) d1
  rw [ht n, Option.map_eq_some_iff] at h2
  obtain ⟨b, h3, h2⟩ := h2
  cases h2
  exact ⟨v1, .ty n, .type t, .type n, b, rfl, .ty n, ty, kit_ty h3, k G1 H1 _ s1 r1 (.bl _)⟩
end

/-! ### own lists -/
def ownL (ρ : Ro) (i : Nat) : Option (List D) := match ρ[i]? with
  | some (.own (.lst ds)) => some ds
  | _ => none
theorem ownL_some {ρ : Ro} {i : Nat} {ds : List D} (h : ownL ρ i = some ds) : ρ[i]? = some (.own (.lst ds)) := by
  unfold ownL at h
  split at h
  · cases h; assumption
  · cases h
theorem Rep.ownAt {K : Fr} {R G H : Hp} {ρ : Ro} {σ : St} {i : Nat} {ds : List D} (r : Rep K R G H ρ σ) (h : ρ[i]? = some (.own (.lst ds))) : ∃ p vs, σ[i]? = some (some (.ref p)) ∧ H p = some (.lst vs) ∧ DqAll K G vs ds := by
  obtain ⟨p, ho, e, hp, gp, rp, x⟩ := r.slot i _ h
  cases ho <;> try exact x.elim
  exact ⟨p, _, e, hp, x⟩
def eAppend (i : Nat) (a : M D) : M D := fun ρ => (ownL ρ i).bind fun _ => (a ρ).bind fun p => (ownL p.2 i).bind fun ds => if ds.length < 1000000 then some (.none, p.2.set i (.own (.lst (ds ++ [p.1])))) else none
def eExtend (i : Nat) (a : M D) : M D := fun ρ => (ownL ρ i).bind fun _ => (a ρ).bind fun p => (ownL p.2 i).bind fun ds => match p.1 with
  | .list es => if ds.length + es.length ≤ 1000000 then some (.none, p.2.set i (.own (.lst (ds ++ es)))) else none
  | _ => none
def ePopAt (i : Nat) (a : M D) : M D := fun ρ => (ownL ρ i).bind fun _ => (a ρ).bind fun p => (ownL p.2 i).bind fun ds => match p.1 with
  | .int j => if 0 ≤ j ∧ j < 2 ^ 63 then (ds[j.toNat]?).map fun d => (d, p.2.set i (.own (.lst (ds.eraseIdx j.toNat)))) else none
  | _ => none
def eLenO (i : Nat) : M D := fun ρ => (ownL ρ i).map fun ds => (.int ds.length, ρ)
def eIxO (i : Nat) (a : M D) : M D := fun ρ => (ownL ρ i).bind fun _ => (a ρ).bind fun p => (ownL p.2 i).bind fun ds => match p.1 with
  | .int j => (atI ds j).map fun d => (d, p.2)
  | _ => none
section
variable {X : Cx} {a e : Expr} {es : List Expr} {pos p p2 apos cpos : Pos} {x : Str}
theorem qe_append (i : Nat) {m : M D} (ha : QE X a m) (hN : X.N[i]? = some x := by rfl) (hv : Vis X.env.scope x := by first | exact Or.inl rfl | exact Or.inr (Or.inl rfl) | exact Or.inr (Or.inr rfl)) (hd : (x == ("__debug__" : Str)) = false := by decide) (hcd : (x == ("__classdict__" : Str)) = false := by decide)
    (hbase : attributeBase (.Name x p) "append" X.env (eval (.Name x p) X.env) = eval (.Name x p) X.env := by rfl)
    (hfew : ((backTo cpos (starEach [a] X.env)).all (fun x => !x.1) && (backToKw cpos (keywordEach [] X.env)).all (fun x => x.1.isSome)
      && decide ([a].length + ([] : List Keyword).length + (if ([] : List Keyword).isEmpty then 0 else 1) < 30)) = true := by rfl)
    (hline : (apos.endLine == cpos.line) = true := by rfl) (hs : starEach [a] X.env = (false, eval a X.env) :: starEach [] X.env := by rfl) (hplain : (backTo cpos (starEach [] X.env)).any (·.1) = false := by rfl) :
    QE X (.Call (.Attribute (.Name x p) "append" apos) [a] [] cpos) (eAppend i m) := by
  refine PE.imp (pe_bm PySem.F.plainAttrs_list PySem.F.slot_list_append PySem.F.type_list_append mt_append (pe_var hN hv hd hcd) (pa_cons ha pa_nil hs) hbase hfew hline hs hplain) fun σ H Q h => ?_
  obtain ⟨R, G, ρ, d, ρ', rp, e, k⟩ := h
  unfold eAppend at e
  rw [Option.bind_eq_some_iff] at e
  obtain ⟨ds0, h0, e⟩ := e
  rw [Option.bind_eq_some_iff] at e
  obtain ⟨⟨y, ρ1⟩, h1, e⟩ := e
  rw [Option.bind_eq_some_iff] at e
  obtain ⟨ds, h2, e⟩ := e
  split at e
  · rename_i hl
    cases e
    obtain ⟨q, vs0, eq0, hq0, _⟩ := rp.ownAt (ownL_some h0)
    refine ⟨.ref q, eq0, .inl ⟨rfl, _, SqL.of hq0⟩, R, G, ρ, y, ρ1, rp, h1, fun G1 H1 v1 s1 r1 d1 => ?_⟩
    obtain ⟨q', vs, eq, hq, dv⟩ := r1.ownAt (ownL_some h2)
    rw [eq0] at eq
    cases eq
    refine ⟨_, vs, v1, rfl, rfl, hq, by rw [dv.length]; exact Nat.lt_of_lt_of_le hl (by decide), k G1 _ _ s1 (r1.write (ownL_some h2) eq0 (c' := .lst (ds ++ [y])) (ho := .lst (vs ++ [v1])) ?_) .non⟩
    exact dv.append (.cons d1 .nil)
  · cases e
theorem qe_extend (i : Nat) {m : M D} (ha : QE X a m) (hN : X.N[i]? = some x := by rfl) (hv : Vis X.env.scope x := by first | exact Or.inl rfl | exact Or.inr (Or.inl rfl) | exact Or.inr (Or.inr rfl)) (hd : (x == ("__debug__" : Str)) = false := by decide) (hcd : (x == ("__classdict__" : Str)) = false := by decide)
    (hbase : attributeBase (.Name x p) "extend" X.env (eval (.Name x p) X.env) = eval (.Name x p) X.env := by rfl)
    (hfew : ((backTo cpos (starEach [a] X.env)).all (fun x => !x.1) && (backToKw cpos (keywordEach [] X.env)).all (fun x => x.1.isSome)
      && decide ([a].length + ([] : List Keyword).length + (if ([] : List Keyword).isEmpty then 0 else 1) < 30)) = true := by rfl)
    (hline : (apos.endLine == cpos.line) = true := by rfl) (hs : starEach [a] X.env = (false, eval a X.env) :: starEach [] X.env := by rfl) (hplain : (backTo cpos (starEach [] X.env)).any (·.1) = false := by rfl) :
    QE X (.Call (.Attribute (.Name x p) "extend" apos) [a] [] cpos) (eExtend i m) := by
  refine PE.imp (pe_bm PySem.F.plainAttrs_list PySem.F.slot_list_extend PySem.F.type_list_extend mt_extend (pe_var hN hv hd hcd) (pa_cons ha pa_nil hs) hbase hfew hline hs hplain) fun σ H Q h => ?_
  obtain ⟨R, G, ρ, d, ρ', rp, e, k⟩ := h
  unfold eExtend at e
  rw [Option.bind_eq_some_iff] at e
  obtain ⟨ds0, h0, e⟩ := e
  rw [Option.bind_eq_some_iff] at e
  obtain ⟨⟨y, ρ1⟩, h1, e⟩ := e
  rw [Option.bind_eq_some_iff] at e
  obtain ⟨ds, h2, e⟩ := e
  cases y <;> try (cases e; done)
  rename_i es
  simp only at e
  split at e
  · rename_i hl
    cases e
    obtain ⟨q, vs0, eq0, hq0, _⟩ := rp.ownAt (ownL_some h0)
    refine ⟨.ref q, eq0, .inl ⟨rfl, _, SqL.of hq0⟩, R, G, ρ, .list es, ρ1, rp, h1, fun G1 H1 v1 s1 r1 d1 => ?_⟩
    obtain ⟨q', vs, eq, hq, dv⟩ := r1.ownAt (ownL_some h2)
    rw [eq0] at eq
    cases eq
    cases d1 with
    | lst hb db =>
      refine ⟨_, _, vs, _, rfl, rfl, hq, r1.subG _ _ hb, by rw [dv.length, db.length]; exact size_of hl, k G1 _ _ s1 (r1.write (ownL_some h2) eq0 (c' := .lst (ds ++ es)) (ho := .lst (vs ++ _)) ?_) .non⟩
      exact dv.append db
  · cases e
theorem qe_popAt (i : Nat) {m : M D} (ha : QE X a m) (hN : X.N[i]? = some x := by rfl) (hv : Vis X.env.scope x := by first | exact Or.inl rfl | exact Or.inr (Or.inl rfl) | exact Or.inr (Or.inr rfl)) (hd : (x == ("__debug__" : Str)) = false := by decide) (hcd : (x == ("__classdict__" : Str)) = false := by decide)
    (hbase : attributeBase (.Name x p) "pop" X.env (eval (.Name x p) X.env) = eval (.Name x p) X.env := by rfl)
    (hfew : ((backTo cpos (starEach [a] X.env)).all (fun x => !x.1) && (backToKw cpos (keywordEach [] X.env)).all (fun x => x.1.isSome)
      && decide ([a].length + ([] : List Keyword).length + (if ([] : List Keyword).isEmpty then 0 else 1) < 30)) = true := by rfl)
    (hline : (apos.endLine == cpos.line) = true := by rfl) (hs : starEach [a] X.env = (false, eval a X.env) :: starEach [] X.env := by rfl) (hplain : (backTo cpos (starEach [] X.env)).any (·.1) = false := by rfl) :
    QE X (.Call (.Attribute (.Name x p) "pop" apos) [a] [] cpos) (ePopAt i m) := by
  refine PE.imp (pe_bm PySem.F.plainAttrs_list PySem.F.slot_list_pop PySem.F.type_list_pop mt_popAt (pe_var hN hv hd hcd) (pa_cons ha pa_nil hs) hbase hfew hline hs hplain) fun σ H Q h => ?_
  obtain ⟨R, G, ρ, d, ρ', rp, e, k⟩ := h
  unfold ePopAt at e
  rw [Option.bind_eq_some_iff] at e
  obtain ⟨ds0, h0, e⟩ := e
  rw [Option.bind_eq_some_iff] at e
  obtain ⟨⟨y, ρ1⟩, h1, e⟩ := e
  rw [Option.bind_eq_some_iff] at e
  obtain ⟨ds, h2, e⟩ := e
  cases y <;> try (cases e; done)
  rename_i j
  simp only at e
  split at e
  · rename_i hl
    rw [Option.map_eq_some_iff] at e
    obtain ⟨z, hz, e⟩ := e
    cases e
    obtain ⟨q, vs0, eq0, hq0, _⟩ := rp.ownAt (ownL_some h0)
    refine ⟨.ref q, eq0, .inl ⟨rfl, _, SqL.of hq0⟩, R, G, ρ, .int j, ρ1, rp, h1, fun G1 H1 v1 s1 r1 d1 => ?_⟩
    obtain ⟨q', vs, eq, hq, dv⟩ := r1.ownAt (ownL_some h2)
    rw [eq0] at eq
    cases eq
    cases d1
    obtain ⟨w, hw, dw⟩ := dv.get hz
    refine ⟨_, vs, j, j.toNat, w, rfl, rfl, hq, by omega, hl.2, ?_, hw, k G1 _ _ s1 (r1.write (ownL_some h2) eq0 (c' := .lst (ds.eraseIdx j.toNat)) (ho := .lst (vs.eraseIdx j.toNat)) (dv.eraseIdx _)) dw⟩
    have hj : j.toNat < vs.length := (List.getElem?_eq_some_iff.mp hw).1
    have e1 : ixN vs.length j = some j.toNat := by
      unfold ixN
      rw [if_pos hl.1, if_pos (by omega)]
    exact (ixN_seq e1).1
  · cases e
theorem qe_lenO (i : Nat) (hm : X.mg "len" = none) (hN : X.N[i]? = some x := by rfl) (hv : Vis X.env.scope x := by first | exact Or.inl rfl | exact Or.inr (Or.inl rfl) | exact Or.inr (Or.inr rfl)) (hd : (x == ("__debug__" : Str)) = false := by decide) (hcd : (x == ("__classdict__" : Str)) = false := by decide) (hg : Gl X "len" := by rfl)
    (hs : starEach [.Name x p] X.env = (false, eval (.Name x p) X.env) :: starEach [] X.env := by rfl) (hpl : (backTo pos (starEach [] X.env)).any (·.1) = false := by rfl) : QE X (.Call (.Name "len" p2) [.Name x p] [] pos) (eLenO i) := by
  refine PE.imp (pe_callB call_len_seq hg hm PySem.boot_len (pa_cons (pe_var hN hv hd hcd) pa_nil hs) (by decide) (by decide) hs hpl) fun σ H Q h => ?_
  obtain ⟨R, G, ρ, d, ρ', rp, e, k⟩ := h
  unfold eLenO at e
  rw [Option.map_eq_some_iff] at e
  obtain ⟨ds, h0, e⟩ := e
  cases e
  obtain ⟨q, vs, eq, hq, dv⟩ := rp.ownAt (ownL_some h0)
  exact ⟨.ref q, eq, q, vs, rfl, .inl (SqL.of hq), by rw [dv.length]; exact k G H _ (.refl _) rp (.int _)⟩
theorem qe_ixO (i : Nat) {m : M D} (ha : QE X a m) (hN : X.N[i]? = some x := by rfl) (hv : Vis X.env.scope x := by first | exact Or.inl rfl | exact Or.inr (Or.inl rfl) | exact Or.inr (Or.inr rfl)) (hd : (x == ("__debug__" : Str)) = false := by decide) (hcd : (x == ("__classdict__" : Str)) = false := by decide) (hs : PlainIx a := by exact fun _ _ => rfl) :
    QE X (.Subscript (.Name x p) a pos) (eIxO i m) := by
  refine PE.imp (pe_ix ix_list (pe_var hN hv hd hcd) ha hs) fun σ H Q h => ?_
  obtain ⟨R, G, ρ, d, ρ', rp, e, k⟩ := h
  unfold eIxO at e
  rw [Option.bind_eq_some_iff] at e
  obtain ⟨ds0, h0, e⟩ := e
  rw [Option.bind_eq_some_iff] at e
  obtain ⟨⟨y, ρ1⟩, h1, e⟩ := e
  rw [Option.bind_eq_some_iff] at e
  obtain ⟨ds, h2, e⟩ := e
  cases y <;> try (cases e; done)
  rename_i j
  simp only at e
  rw [Option.map_eq_some_iff] at e
  obtain ⟨z, hz, e⟩ := e
  cases e
  obtain ⟨q, vs0, eq0, hq0, _⟩ := rp.ownAt (ownL_some h0)
  refine ⟨.ref q, eq0, R, G, ρ, .int j, _, rp, h1, fun G1 H1 v1 s1 r1 d1 => ?_⟩
  obtain ⟨q', vs, eq, hq, dv⟩ := r1.ownAt (ownL_some h2)
  rw [eq0] at eq
  cases eq
  cases d1
  obtain ⟨w, hw, dw⟩ := atI_rel dv hz
  exact ⟨_, vs, j, w, rfl, rfl, SqL.of hq, hw, k G1 H1 _ s1 r1 dw⟩
/-- x[i] = e, x one's own list -/
def sSetIx (i : Nat) (a b : M D) : MS := fun ρ => (b ρ).bind fun p => (ownL p.2 i).bind fun _ => (a p.2).bind fun q => (ownL q.2 i).bind fun ds => match q.1 with
  | .int j => (ixN ds.length j).map fun n => (.nx, q.2.set i (.own (.lst (ds.set n p.1))))
  | _ => none
theorem qs_setIx (i : Nat) {m n : M D} {b : Expr} (ha : QE X a m) (hb : QE X b n) (hN : X.N[i]? = some x := by rfl) (hv : Vis X.env.scope x := by first | exact Or.inl rfl | exact Or.inr (Or.inl rfl) | exact Or.inr (Or.inr rfl)) (hd : (x == ("__debug__" : Str)) = false := by decide) (hcd : (x == ("__classdict__" : Str)) = false := by decide)
    (hs : swapsWithSole [.Subscript (.Name x p) a p2] b pos.line X.env = pure false := by rfl) (hw : swappedStores [.Subscript (.Name x p) a p2] b X.env = pure none := by rfl)
    (h1 : (assignEach [.Subscript (.Name x p) a p2] X.env).map (·.2) = [assign (.Subscript (.Name x p) a p2) X.env] := by rfl)
    (has : ∀ v, assign (.Subscript (.Name x p) a p2) X.env v = (do
      let ov ← holding [v] (eval (.Name x p) X.env)
      let iv ← holding [v, ov] (eval a X.env)
      standAt p2
      holding [v, ov, iv] (setItem ov iv v)
      release [v, ov, iv] []) := by intro _; rfl) : QS X [] (.Assign [.Subscript (.Name x p) a p2] b pos) (sSetIx i m n) := by
  refine PS.imp (ps_asg hb (pg_sub (pe_var hN hv hd hcd) ha set_list has) hs hw h1) fun E σ H h => ?_
  obtain ⟨R, G, ρ, f, ρ', rp, e, k⟩ := h
  unfold sSetIx at e
  rw [Option.bind_eq_some_iff] at e
  obtain ⟨⟨y, ρ1⟩, h1, e⟩ := e
  rw [Option.bind_eq_some_iff] at e
  obtain ⟨ds0, h0, e⟩ := e
  rw [Option.bind_eq_some_iff] at e
  obtain ⟨⟨z, ρ2⟩, h2, e⟩ := e
  rw [Option.bind_eq_some_iff] at e
  obtain ⟨ds, h3, e⟩ := e
  cases z <;> try (cases e; done)
  rename_i j
  simp only at e
  rw [Option.map_eq_some_iff] at e
  obtain ⟨l, hl, e⟩ := e
  cases e
  refine ⟨R, G, ρ, y, ρ1, rp, h1, fun G1 H1 v1 s1 r1 d1 => ?_⟩
  obtain ⟨q, vs0, eq0, hq0, _⟩ := r1.ownAt (ownL_some h0)
  refine ⟨.ref q, eq0, R, G1, ρ1, .int j, ρ2, r1, h2, fun G2 H2 v2 s2 r2 d2 => ?_⟩
  obtain ⟨q', vs, eq, hq, dv⟩ := r2.ownAt (ownL_some h3)
  rw [eq0] at eq
  cases eq
  cases d2
  refine ⟨_, vs, j, l, rfl, rfl, hq, by rw [dv.length]; exact hl, k G2 _ σ (s1.trans s2) (r2.write (ownL_some h3) eq0 (c' := .lst (ds.set l y)) (ho := .lst (vs.set l v1)) ?_) (.refl _ _)⟩
  exact DqAll.set (Dq_mono s2 d1) l dv
end

/-! ### defs -/
theorem fnP {P : Program} {w : World} {K : Fr} {mg : Str → Option Value} {base : Heap} {x qual : Str} {st : Stmt} {f : Addr} {fd : FuncData} {N ps : List Str} {k : Nat} {W : List Nat} {body : MS} (F : Fun K x qual st f fd) (S : FnScope N ps (defScope st))
    (h : ∀ (cdv : Value) (A : Around) (outer : List Env) (s : Shared) (H : Hp) (E : XK), Room k (A.deeper (envOfC qual (defScope st) s.heap.objs.size f cdv)) → QSs (cxOf CX0 P w K mg base N qual (defScope st) f cdv A outer s H E).nox W (defBody st) body) :
    FnOk P w K mg base CX0 (k + 1) f fd ps (spP K (runF ps.length N.length body) ps.length) := by
  refine F.ok S (fun vs H Q E h => h.1) (fun cdv A outer s H vs Q E hr hsp => ⟨_, h cdv A outer s H E hr, ?_⟩)
  obtain ⟨hl, G, ds, d, sG, dd, e, k⟩ := hsp
  unfold runF at e
  split at e
  · rename_i hn
    let R : Hp := fun a => if G a = none then H a else none
    have hR : ∀ a o, R a = some o → G a = none ∧ H a = some o := fun a o q => by
      by_cases z : G a = none
      · exact ⟨z, by have := q; simp only [R, z, if_true] at this; exact this⟩
      · have := q; simp only [R, z, if_false] at this; cases this
    have hRi : ∀ a o, G a = none → H a = some o → R a = some o := fun a o z q => by simp only [R, z, if_true]; exact q
    have rep0 : Rep K R G H (ds.map Sl.dat ++ List.replicate (N.length - ps.length) Sl.un) (L2.start N vs) := by
      refine ⟨?_, fun a o q => (hR a o q).2, sG, fun a o q => .inl (hR a o q).1, fun i s hs => ?_, fun i j c c' p h1 h2 _ _ => ?_⟩
      · simp [L2.start, dd.length, ← hn]
      · by_cases hi : i < ds.length
        · rw [List.getElem?_append_left (by simpa using hi), List.getElem?_map] at hs
          rw [List.getElem?_eq_getElem hi] at hs
          cases hs
          obtain ⟨v, hv, dv⟩ := dd.get (List.getElem?_eq_getElem hi)
          refine ⟨v, ?_, dv⟩
          show (vs.map some ++ _)[i]? = _
          rw [List.getElem?_append_left (by rw [List.length_map, dd.length]; exact hi), List.getElem?_map, hv]
          rfl
        · rw [List.getElem?_append_right (by simpa using hi), List.getElem?_replicate] at hs
          split at hs
          · cases hs; trivial
          · cases hs
      · exfalso
        by_cases hi : i < ds.length
        · rw [List.getElem?_append_left (by simpa using hi), List.getElem?_map, List.getElem?_eq_getElem hi] at h1
          cases h1
        · rw [List.getElem?_append_right (by simpa using hi), List.getElem?_replicate] at h1
          split at h1 <;> cases h1
    have fin : ∀ G' H' (σ' : St) (ρ' : Ro), Same G G' → Rep K R G' H' ρ' σ' → Gr G H G' H' := fun G' H' σ' ρ' s r => by
      refine ⟨fun a o q => ?_, s, r.subG, fun a o q1 q2 => ?_⟩
      · cases z : G a with
        | none => exact r.subR a o (hRi a o z q)
        | some u =>
          have := sG a u z
          rw [q] at this
          cases this
          exact r.subG a _ (s a _ z)
      · cases z : H a with
        | none => exact .inl rfl
        | some u =>
          refine .inr ?_
          rcases r.dis a u (hRi a u q1 z) with w | w
          · rw [q2] at w; cases w
          · have w2 := r.subR a u (hRi a u q1 z)
            rw [r.subG a _ q2] at w2
            cases w2
            exact w
    cases q : body (ds.map Sl.dat ++ List.replicate (N.length - ps.length) Sl.un) with
    | none => rw [q] at e; cases e
    | some r =>
      obtain ⟨fl, ρ'⟩ := r
      rw [q] at e
      refine ⟨R, G, _, fl, ρ', rep0, q, ?_⟩
      cases fl with
      | nx => cases e; exact fun G' H' σ' s r _ => k G' H' _ (fin G' H' σ' _ s r) .non
      | bk => cases e
      | ct => cases e
      | rt d => cases e; exact fun G' H' σ' v s r _ dv => k G' H' v (fin G' H' σ' _ s r) dv
  · cases e
end QL
set_option Elab.async false
set_option linter.all false
set_option maxRecDepth 100000
set_option maxHeartbeats 1000000
namespace QL
open PySem PySem.Spec PyProof.Rows L2

/-! ### calls that are given objects of one's own, and the script -/
inductive Ar where
  | dat (d : D)
  | var (i : Nat)
inductive ArAll (K : Fr) (G : Hp) (σ : St) : List V → List Ar → Prop
  | nil : ArAll K G σ [] []
  | dat {v : V} {d : D} {vs : List V} {as : List Ar} : Dq K G v d → ArAll K G σ vs as → ArAll K G σ (v :: vs) (.dat d :: as)
  | var {v : V} {i : Nat} {vs : List V} {as : List Ar} : σ[i]? = some (some v) → ArAll K G σ vs as → ArAll K G σ (v :: vs) (.var i :: as)
theorem ArAll.mono {K : Fr} {G G' : Hp} {σ : St} (s : Same G G') : ∀ {vs : List V} {as : List Ar}, ArAll K G σ vs as → ArAll K G' σ vs as
  | _, _, .nil => .nil
  | _, _, .dat d t => .dat (Dq_mono s d) (ArAll.mono s t)
  | _, _, .var e t => .var e (ArAll.mono s t)
theorem ArAll.length {K : Fr} {G : Hp} {σ : St} : ∀ {vs : List V} {as : List Ar}, ArAll K G σ vs as → vs.length = as.length
  | _, _, .nil => rfl
  | _, _, .dat _ t => by simp [ArAll.length t]
  | _, _, .var _ t => by simp [ArAll.length t]
theorem ArAll.get {K : Fr} {G : Hp} {σ : St} : ∀ {vs : List V} {as : List Ar} {k : Nat} {a : Ar}, ArAll K G σ vs as → as[k]? = some a → ∃ v, vs[k]? = some v ∧ (match a with | .dat d => Dq K G v d | .var i => σ[i]? = some (some v))
  | _, _, _, _, .nil, e => by simp at e
  | _, _, 0, _, .dat d _, e => by simp at e; subst e; exact ⟨_, rfl, d⟩
  | _, _, 0, _, .var d _, e => by simp at e; subst e; exact ⟨_, rfl, d⟩
  | _, _, k + 1, a, .dat _ t, e => by
    obtain ⟨v, h1, h2⟩ := ArAll.get (k := k) t (by simpa using e)
    exact ⟨v, by simpa using h1, h2⟩
  | _, _, k + 1, a, .var _ t, e => by
    obtain ⟨v, h1, h2⟩ := ArAll.get (k := k) t (by simpa using e)
    exact ⟨v, by simpa using h1, h2⟩
def tMY (K : Fr) (m : M (List Ar)) : TA := fun σ H Q => ∃ R G ρ as ρ', Rep K R G H ρ σ ∧ m ρ = some (as, ρ') ∧ ∀ G' H' vs, Same G G' → Rep K R G' H' ρ' σ → ArAll K G' σ vs as → Q vs H'
abbrev QY (X : Cx) (e : List Expr) (m : M (List Ar)) : Prop := PA X e (tMY X.K m)
def yNil : M (List Ar) := fun ρ => some ([], ρ)
def yDat (a : M D) (r : M (List Ar)) : M (List Ar) := fun ρ => (a ρ).bind fun p => (r p.2).map fun q => (.dat p.1 :: q.1, q.2)
def isRef : Sl → Bool
  | .own _ => true
  | .scr _ => true
  | _ => false
def yVar (i : Nat) (r : M (List Ar)) : M (List Ar) := fun ρ => (ρ[i]?).bind fun s => if isRef s then (r ρ).map fun q => (.var i :: q.1, q.2) else none
def toSl (ρ : Ro) : Ar → Sl
  | .dat d => .dat d
  | .var i => (ρ[i]?).getD .un
def ownIx (ρ : Ro) : List Ar → List Nat
  | [] => []
  | .dat _ :: as => ownIx ρ as
  | .var i :: as => match ρ[i]? with
    | some (.own _) => i :: ownIx ρ as
    | _ => ownIx ρ as
def clr : List Ar → Ro → Ro
  | [], ρ => ρ
  | .dat _ :: as, ρ => clr as ρ
  | .var i :: as, ρ => clr as (match ρ[i]? with | some (.own _) => ρ.set i .un | _ => ρ)
def put : List Ar → List Sl → Ro → Ro
  | [], _, ρ => ρ
  | _ :: _, [], ρ => ρ
  | .dat _ :: as, _ :: ss, ρ => put as ss ρ
  | .var i :: as, s :: ss, ρ => put as ss (match s with | .own c => ρ.set i (.own c) | _ => ρ)
def eAppO (F : List Sl → Option (D × List Sl)) (m : M (List Ar)) : M D := fun ρ => (m ρ).bind fun p => if (ownIx p.2 p.1).Nodup then (F (p.1.map (toSl p.2))).map fun r => (r.1, put p.1 r.2 (clr p.1 p.2)) else none
theorem clr_get : ∀ (as : List Ar) (ρ : Ro) (j : Nat) (s : Sl), (clr as ρ)[j]? = some s → s = .un ∨ (ρ[j]? = some s ∧ ((∃ c, s = .own c) → Ar.var j ∉ as))
  | [], ρ, j, s, h => .inr ⟨h, fun _ z => nomatch z⟩
  | .dat d :: as, ρ, j, s, h => by
    rcases clr_get as ρ j s h with e | ⟨e, n⟩
    · exact .inl e
    · exact .inr ⟨e, fun c z => (List.mem_cons.mp z).elim (fun z => nomatch z) (n c)⟩
  | .var i :: as, ρ, j, s, h => by
    unfold clr at h
    rcases clr_get as _ j s h with e | ⟨e, n⟩
    · exact .inl e
    · split at e
      · rename_i c hc
        by_cases hij : i = j
        · subst hij
          rw [List.getElem?_set] at e
          simp only [if_true] at e
          split at e
          · exact .inl (Option.some.inj e).symm
          · cases e
        · rw [List.getElem?_set_ne hij] at e
          refine .inr ⟨e, fun c z => ?_⟩
          rcases List.mem_cons.mp z with z | z
          · cases z; exact hij rfl
          · exact n c z
      · rename_i hc
        refine .inr ⟨e, fun ⟨c, hs⟩ z => ?_⟩
        rcases List.mem_cons.mp z with z | z
        · cases z
          subst hs
          exact hc c e
        · exact n ⟨c, hs⟩ z
theorem put_get : ∀ (as : List Ar) (ss : List Sl) (ρ : Ro) (j : Nat) (s : Sl), (put as ss ρ)[j]? = some s → ρ[j]? = some s ∨ ∃ (k : Nat) (c : Ow), as[k]? = some (.var j) ∧ ss[k]? = some (.own c) ∧ s = .own c
  | [], _, ρ, j, s, h => .inl h
  | .dat _ :: _, [], ρ, j, s, h => .inl h
  | .var _ :: _, [], ρ, j, s, h => .inl h
  | .dat _ :: as, t :: ss, ρ, j, s, h => by
    rcases put_get as ss ρ j s h with e | ⟨k, c, a, b, e⟩
    · exact .inl e
    · exact .inr ⟨k + 1, c, by simpa using a, by simpa using b, e⟩
  | .var i :: as, t :: ss, ρ, j, s, h => by
    unfold put at h
    rcases put_get as ss _ j s h with e | ⟨k, c, a, b, e⟩
    · split at e
      · rename_i c
        by_cases hij : i = j
        · subst hij
          rw [List.getElem?_set] at e
          simp only [if_true] at e
          split at e
          · exact .inr ⟨0, c, rfl, rfl, (Option.some.inj e).symm⟩
          · cases e
        · rw [List.getElem?_set_ne hij] at e
          exact .inl e
      · exact .inl e
    · exact .inr ⟨k + 1, c, by simpa using a, by simpa using b, e⟩
theorem clr_length : ∀ (as : List Ar) (ρ : Ro), (clr as ρ).length = ρ.length
  | [], ρ => rfl
  | .dat _ :: as, ρ => clr_length as ρ
  | .var i :: as, ρ => by
    unfold clr
    rw [clr_length]
    split <;> simp
theorem put_length : ∀ (as : List Ar) (ss : List Sl) (ρ : Ro), (put as ss ρ).length = ρ.length
  | [], _, ρ => rfl
  | .dat _ :: _, [], ρ => rfl
  | .var _ :: _, [], ρ => rfl
  | .dat _ :: as, _ :: ss, ρ => put_length as ss ρ
  | .var i :: as, s :: ss, ρ => by
    unfold put
    rw [put_length]
    split <;> simp
theorem ownIx_mem {ρ : Ro} : ∀ {as : List Ar} {k : Nat} {i : Nat} {c : Ow}, as[k]? = some (.var i) → ρ[i]? = some (.own c) → i ∈ ownIx ρ as
  | [], _, _, _, h, _ => by simp at h
  | .dat _ :: as, 0, _, _, h, _ => by simp at h
  | .var j :: as, 0, i, c, h, e => by
    simp at h
    subst h
    unfold ownIx
    rw [e]
    exact List.mem_cons_self
  | .dat _ :: as, k + 1, i, c, h, e => ownIx_mem (as := as) (k := k) (by simpa using h) e
  | .var j :: as, k + 1, i, c, h, e => by
    have := ownIx_mem (as := as) (k := k) (i := i) (c := c) (by simpa using h) e
    unfold ownIx
    split
    · exact List.mem_cons_of_mem _ this
    · exact this
theorem ownIx_inj {ρ : Ro} : ∀ {as : List Ar} {k l : Nat} {i : Nat} {c : Ow}, (ownIx ρ as).Nodup → as[k]? = some (.var i) → as[l]? = some (.var i) → ρ[i]? = some (.own c) → k = l
  | [], _, _, _, _, _, h, _, _ => by simp at h
  | .dat _ :: as, 0, _, _, _, _, h, _, _ => by simp at h
  | .dat _ :: as, _ + 1, 0, _, _, _, _, h, _ => by simp at h
  | .dat _ :: as, k + 1, l + 1, i, c, nd, h1, h2, e => by
    have := ownIx_inj (as := as) (k := k) (l := l) (i := i) (c := c) nd (by simpa using h1) (by simpa using h2) e
    omega
  | .var j :: as, 0, 0, i, c, nd, h1, h2, e => rfl
  | .var j :: as, 0, l + 1, i, c, nd, h1, h2, e => by
    simp at h1
    subst h1
    unfold ownIx at nd
    rw [e] at nd
    exact absurd (ownIx_mem (as := as) (k := l) (by simpa using h2) e) (List.nodup_cons.mp nd).1
  | .var j :: as, k + 1, 0, i, c, nd, h1, h2, e => by
    simp at h2
    subst h2
    unfold ownIx at nd
    rw [e] at nd
    exact absurd (ownIx_mem (as := as) (k := k) (by simpa using h1) e) (List.nodup_cons.mp nd).1
  | .var j :: as, k + 1, l + 1, i, c, nd, h1, h2, e => by
    have nd' : (ownIx ρ as).Nodup := by
      unfold ownIx at nd
      split at nd
      · exact (List.nodup_cons.mp nd).2
      · exact nd
    have := ownIx_inj (as := as) (k := k) (l := l) (i := i) (c := c) nd' (by simpa using h1) (by simpa using h2) e
    omega
/-- own things handed to a callee, and back -/
theorem Rep.hand {K : Fr} {R G1 H1 : Hp} {ρ1 : Ro} {σ : St} {as : List Ar} {vs : List V} (r1 : Rep K R G1 H1 ρ1 σ) (nd : (ownIx ρ1 as).Nodup) (d1 : ArAll K G1 σ vs as) :
    ∃ Rc, Rep K Rc G1 H1 (as.map (toSl ρ1)) (vs.map some) ∧ ∀ G2 H2 ss', Same G1 G2 → Rep K Rc G2 H2 ss' (vs.map some) → Rep K R G2 H2 (put as ss' (clr as ρ1)) σ := by
  -- the addresses that are handed on
  let Pd : Addr → Prop := fun a => ∃ (l i : Nat) (c : Ow), as[l]? = some (.var i) ∧ ρ1[i]? = some (.own c) ∧ Ft H1 c σ[i]? a
  have pdN : ∀ a, Pd a → R a = none ∧ G1 a = none ∧ ∃ o, H1 a = some o ∧ ¬ isT o := fun a ⟨l, i, c, _, hi, f⟩ => by
    obtain ⟨q, ho, e, hq, gq, rq, x⟩ := r1.slot i _ hi
    obtain ⟨q', ho', e', hq', m⟩ := f
    rw [e] at e'
    cases e'
    rw [hq] at hq'
    cases hq'
    rcases m with rfl | m
    · exact ⟨rq, gq, ho, hq, fun z => OwOk_isT x z⟩
    · obtain ⟨o, w1, w2, w3, w4⟩ := OwOk_subs x a m
      exact ⟨w4, w3, o, w1, w2⟩
  let Rc : Hp := fun a => open Classical in if G1 a = none ∧ ¬ Pd a then H1 a else none
  have hRc : ∀ a o, Rc a = some o → (G1 a = none ∧ ¬ Pd a) ∧ H1 a = some o := fun a o q => by
    have q' : (open Classical in if G1 a = none ∧ ¬ Pd a then H1 a else none) = some o := q
    split at q'
    · rename_i z; exact ⟨z, q'⟩
    · cases q'
  have hRi : ∀ a o, G1 a = none → ¬ Pd a → H1 a = some o → Rc a = some o := fun a o z1 z2 q => by
    show (open Classical in if G1 a = none ∧ ¬ Pd a then H1 a else none) = some o
    rw [if_pos ⟨z1, z2⟩]; exact q
  have hRn : ∀ a, Pd a → Rc a = none := fun a z => by
    show (open Classical in if G1 a = none ∧ ¬ Pd a then H1 a else none) = none
    rw [if_neg fun q => q.2 z]
  have vget : ∀ (l : Nat) (v : V), vs[l]? = some v → (vs.map some)[l]? = some (some v) := fun l v h => by rw [List.getElem?_map, h]; rfl
  have rep : Rep K Rc G1 H1 (as.map (toSl ρ1)) (vs.map some) := by
    refine ⟨by simp [d1.length], fun a o q => (hRc a o q).2, r1.subG, fun a o q => .inl (hRc a o q).1.1, fun l s hs => ?_, fun l l' c c' q e1 e2 e3 e4 => ?_⟩
    · rw [List.getElem?_map] at hs
      cases ha : as[l]? with
      | none => rw [ha] at hs; cases hs
      | some a =>
        rw [ha] at hs
        cases hs
        obtain ⟨v, hv, dv⟩ := d1.get ha
        rw [vget l v hv]
        cases a with
        | dat d => exact ⟨v, rfl, dv⟩
        | var i =>
          show SlOk K Rc G1 H1 ((ρ1[i]?).getD .un) _
          cases hi : ρ1[i]? with
          | none => trivial
          | some s =>
            have so := r1.slot i s hi
            have dv : σ[i]? = some (some v) := dv
            rw [dv] at so
            cases s with
            | un => trivial
            | dat d => exact so
            | scr ns => exact so
            | ref t => exact so
            | own c =>
              obtain ⟨q, ho, e, a1, a2, a3, a4⟩ := so
              cases e
              exact ⟨q, ho, rfl, a1, a2, hRn q ⟨l, i, c, ha, hi, .self dv a1⟩, OwOk_mono (.refl _) (fun a m o w1 _ w3 _ => ⟨w1, w3, hRn a ⟨l, i, c, ha, hi, q, ho, dv, a1, .inr m⟩⟩) a4⟩
    · have own : ∀ (l : Nat) (c : Ow), (as.map (toSl ρ1))[l]? = some (.own c) → Ft H1 c (vs.map some)[l]? q → ∃ i, as[l]? = some (.var i) ∧ ρ1[i]? = some (.own c) ∧ Ft H1 c σ[i]? q := fun l c e1 e3 => by
        rw [List.getElem?_map] at e1
        cases ha : as[l]? with
        | none => rw [ha] at e1; cases e1
        | some a =>
          rw [ha] at e1
          obtain ⟨v, hv, dv⟩ := d1.get ha
          rw [vget l v hv] at e3
          cases a with
          | dat d => cases e1
          | var i =>
            have dv : σ[i]? = some (some v) := dv
            refine ⟨i, rfl, ?_, by rw [dv]; exact e3⟩
            have e1' : (ρ1[i]?).getD .un = .own c := Option.some.inj e1
            cases hi : ρ1[i]? with
            | none => rw [hi] at e1'; cases e1'
            | some s => rw [hi] at e1'; cases e1'; rfl
      obtain ⟨i, a1, b1, c1⟩ := own l c e1 e3
      obtain ⟨j, a2, b2, c2⟩ := own l' c' e2 e4
      have : i = j := r1.apart i j c c' q b1 b2 c1 c2
      subst this
      exact ownIx_inj nd a1 a2 b1
  refine ⟨Rc, rep, fun G2 H2 ss' s2 r2 => ?_⟩
  -- back in the caller
  have keepH : ∀ a o, H1 a = some o → ¬ isT o → G1 a = none → ¬ Pd a → H2 a = some o ∧ G2 a = none := fun a o q nt g np => ⟨r2.subR a o (hRi a o g np q), (r2.dis a o (hRi a o g np q)).resolve_right nt⟩
  have nPR : ∀ a o, R a = some o → ¬ Pd a := fun a o q z => by
    rw [(pdN a z).1] at q; cases q
  -- what the callee had as its own is none of the caller's others'
  have noR : ∀ a, Rc a = none → G2 a = none → R a = none := fun a z1 z2 => by
    cases q : R a with
    | none => rfl
    | some u =>
      cases g : G1 a with
      | none => rw [hRi a u g (nPR a u q) (r1.subR a u q)] at z1; cases z1
      | some o => rw [s2 a o g] at z2; cases z2
  have cls : ∀ (j : Nat) (c : Ow), (put as ss' (clr as ρ1))[j]? = some (.own c) → (ρ1[j]? = some (.own c) ∧ ∀ a, Ft H1 c σ[j]? a → ¬ Pd a) ∨ ∃ (l : Nat) (v : V), as[l]? = some (.var j) ∧ ss'[l]? = some (.own c) ∧ vs[l]? = some v ∧ σ[j]? = some (some v) := fun j c hs => by
    rcases put_get as ss' _ j _ hs with hs | ⟨l, c1, al, sl, ec⟩
    · rcases clr_get as ρ1 j _ hs with z | ⟨hs, nv⟩
      · cases z
      · refine .inl ⟨hs, fun a fa ⟨l, i, c', al, hi, f⟩ => ?_⟩
        have : i = j := r1.apart i j c' c a hi hs f fa
        subst this
        exact nv ⟨c, rfl⟩ (List.mem_of_getElem? al)
    · cases ec
      obtain ⟨v, hv, dv⟩ := d1.get al
      exact .inr ⟨l, v, al, sl, hv, dv⟩
  have good : ∀ (j : Nat) (s : Sl), (put as ss' (clr as ρ1))[j]? = some s → SlOk K R G2 H2 s σ[j]? := fun j s hs => by
    by_cases own : ∃ c, s = .own c
    · obtain ⟨c, rfl⟩ := own
      rcases cls j c hs with ⟨hj, np⟩ | ⟨l, v, al, sl, hv, dv⟩
      · obtain ⟨q, ho, e, a1, a2, a3, a4⟩ := r1.slot j _ hj
        obtain ⟨b1, b2⟩ := keepH q ho a1 (fun z => OwOk_isT a4 z) a2 (np q (.self e a1))
        exact ⟨q, ho, e, b1, b2, a3, OwOk_mono s2 (fun a m o w1 w2 w3 w4 => ⟨(keepH a o w1 w2 w3 (np a ⟨q, ho, e, a1, .inr m⟩)).1, (keepH a o w1 w2 w3 (np a ⟨q, ho, e, a1, .inr m⟩)).2, w4⟩) a4⟩
      · have so := r2.slot l _ sl
        rw [vget l v hv] at so
        obtain ⟨q, ho, e, a1, a2, a3, a4⟩ := so
        cases e
        exact ⟨q, ho, dv, a1, a2, noR q a3 a2, OwOk_mono (.refl _) (fun a m o w1 _ w3 w4 => ⟨w1, w3, noR a w4 w3⟩) a4⟩
    · rcases put_get as ss' _ j s hs with hs | ⟨l, c, al, sl, rfl⟩
      · rcases clr_get as ρ1 j s hs with rfl | ⟨hs, nv⟩
        · trivial
        · have so := r1.slot j s hs
          cases s with
          | un => trivial
          | dat d => obtain ⟨v, e, x⟩ := so; exact ⟨v, e, Dq_mono s2 x⟩
          | scr ns => obtain ⟨v, e, x⟩ := so; exact ⟨v, e, s2.seq x⟩
          | ref t => exact SlT_mono s2 so
          | own c => exact absurd ⟨c, rfl⟩ own
      · exact absurd ⟨c, rfl⟩ own
  refine ⟨by rw [put_length, clr_length]; exact r1.len, fun a o q => ?_, r2.subG, fun a o q => ?_, good, fun i j c c' q e1 e2 e3 e4 => ?_⟩
  · cases g : G1 a with
    | none => exact r2.subR a o (hRi a o g (nPR a o q) (r1.subR a o q))
    | some u =>
      have w := r1.subG a u g
      rw [r1.subR a o q] at w
      cases w
      exact r2.subG a _ (s2 a _ g)
  · rcases r1.dis a o q with g | g
    · exact r2.dis a o (hRi a o g (nPR a o q) (r1.subR a o q))
    · exact .inr g
  · -- a slot that was not handed on has nothing of the callee's
    have far : ∀ (j : Nat) (c : Ow) (a : Addr), ρ1[j]? = some (.own c) → (∀ a, Ft H1 c σ[j]? a → ¬ Pd a) → Ft H2 c σ[j]? a → Ft H1 c σ[j]? a ∧ Rc a ≠ none := fun j c a hj np f => by
      have f1 : Ft H1 c σ[j]? a := f.back (r1.slot j _ hj) fun p ho e h => by
        obtain ⟨q, ho', e', a1, a2, a3, a4⟩ := r1.slot j _ hj
        rw [e] at e'
        cases e'
        rw [h] at a1
        cases a1
        exact (keepH p ho h (fun z => OwOk_isT a4 z) a2 (np p (.self e h))).1
      refine ⟨f1, fun z => ?_⟩
      obtain ⟨q, ho', e', a1, a2, a3, a4⟩ := r1.slot j _ hj
      obtain ⟨q1, ho1, e1, w1, m⟩ := f1
      rw [e'] at e1
      cases e1
      rw [a1] at w1
      cases w1
      rcases m with rfl | m
      · rw [hRi a _ a2 (np a (.self e' a1)) a1] at z; cases z
      · obtain ⟨o, w1, w2, w3, w4⟩ := OwOk_subs a4 a m
        rw [hRi a o w3 (np a ⟨q, ho', e', a1, .inr m⟩) w1] at z; cases z
    have near : ∀ (l : Nat) (c : Ow) (v : V) (j : Nat) (a : Addr), ss'[l]? = some (.own c) → vs[l]? = some v → σ[j]? = some (some v) → Ft H2 c σ[j]? a → Ft H2 c (vs.map some)[l]? a ∧ Rc a = none := fun l c v j a sl hv dv f => by
      rw [dv, ← vget l v hv] at f
      refine ⟨f, ?_⟩
      obtain ⟨q, ho', e', a1, a2, a3, a4⟩ := r2.slot l _ sl
      obtain ⟨q1, ho1, e1, w1, m⟩ := f
      rw [e'] at e1
      cases e1
      rw [a1] at w1
      cases w1
      rcases m with rfl | m
      · exact a3
      · exact (OwOk_subs a4 a m).choose_spec.2.2.2
    rcases cls i c e1 with ⟨hi, ni⟩ | ⟨l, v1, al, sl, hv, dv⟩
    · rcases cls j c' e2 with ⟨hj, nj⟩ | ⟨l', v2, al', sl', hv', dv'⟩
      · exact r1.apart i j c c' q hi hj (far i c q hi ni e3).1 (far j c' q hj nj e4).1
      · exact absurd (near l' c' v2 j q sl' hv' dv' e4).2 (far i c q hi ni e3).2
    · rcases cls j c' e2 with ⟨hj, nj⟩ | ⟨l', v2, al', sl', hv', dv'⟩
      · exact absurd (near l c v1 i q sl hv dv e3).2 (far j c' q hj nj e4).2
      · have el := r2.apart l l' c c' q sl sl' (near l c v1 i q sl hv dv e3).1 (near l' c' v2 j q sl' hv' dv' e4).1
        subst el
        rw [al] at al'
        cases al'
        rfl
structure FOk (n : Nat) (F : List Sl → Option (D × List Sl)) : Prop where
  len : ∀ ss r, F ss = some r → ss.length = n
  own : ∀ ss d ss' (l : Nat) (c : Ow), F ss = some (d, ss') → ss'[l]? = some (.own c) → ∃ c0, ss[l]? = some (.own c0)
def spO (K : Fr) (F : List Sl → Option (D × List Sl)) (n : Nat) : Sp := fun vs H Q _ => vs.length = n ∧ ∃ R G ss d ss', Rep K R G H ss (vs.map some) ∧ F ss = some (d, ss') ∧ ∀ G' H' v, Same G G' → Rep K R G' H' ss' (vs.map some) → Dq K G' v d → Q v H'
section
variable {X : Cx} {e : Expr} {es : List Expr} {pos p : Pos}
theorem qy_nil : QY X [] yNil := PA.imp pa_nil fun σ H Q h => by
  obtain ⟨R, G, ρ, d, ρ', rp, e, k⟩ := h
  cases e
  exact k G H [] (.refl _) rp .nil
theorem qy_dat {m : M D} {n : M (List Ar)} (ha : QE X e m) (hr : QY X es n) (hs : starEach (e :: es) X.env = (false, eval e X.env) :: starEach es X.env := by rfl) : QY X (e :: es) (yDat m n) := by
  refine PA.imp (pa_cons ha hr hs) fun σ H Q h => ?_
  obtain ⟨R, G, ρ, d, ρ', rp, e, k⟩ := h
  unfold yDat at e
  rw [Option.bind_eq_some_iff] at e
  obtain ⟨⟨x, ρ1⟩, h1, e⟩ := e
  rw [Option.map_eq_some_iff] at e
  obtain ⟨⟨y, ρ2⟩, h2, e⟩ := e
  cases e
  refine ⟨R, G, ρ, x, ρ1, rp, h1, fun G1 H1 v1 s1 r1 d1 => ?_⟩
  refine ⟨R, G1, ρ1, y, _, r1, h2, fun G2 H2 v2 s2 r2 d2 => ?_⟩
  exact k G2 H2 (v1 :: v2) (s1.trans s2) r2 (.dat (Dq_mono s2 d1) d2)
theorem qy_var (i : Nat) {x : Str} {n : M (List Ar)} (hr : QY X es n) (hN : X.N[i]? = some x := by rfl) (hv : Vis X.env.scope x := by first | exact Or.inl rfl | exact Or.inr (Or.inl rfl) | exact Or.inr (Or.inr rfl)) (hd : (x == ("__debug__" : Str)) = false := by decide)
    (hcd : (x == ("__classdict__" : Str)) = false := by decide) (hs : starEach (.Name x p :: es) X.env = (false, eval (.Name x p) X.env) :: starEach es X.env := by rfl) : QY X (.Name x p :: es) (yVar i n) := by
  refine PA.imp (pa_cons (pe_var hN hv hd hcd) hr hs) fun σ H Q h => ?_
  obtain ⟨R, G, ρ, d, ρ', rp, e, k⟩ := h
  unfold yVar at e
  rw [Option.bind_eq_some_iff] at e
  obtain ⟨s, h1, e⟩ := e
  split at e
  · rename_i href
    rw [Option.map_eq_some_iff] at e
    obtain ⟨⟨y, ρ2⟩, h2, e⟩ := e
    cases e
    have so := rp.slot i s h1
    obtain ⟨v, ev⟩ : ∃ v, σ[i]? = some (some v) := by
      cases s with
      | un => cases href
      | dat d => cases href
      | scr ns => obtain ⟨a, e, _⟩ := so; exact ⟨_, e⟩
      | ref t => cases href
      | own c => obtain ⟨a, _, e, _⟩ := so; exact ⟨_, e⟩
    refine ⟨v, ev, R, G, ρ, y, _, rp, h2, fun G2 H2 v2 s2 r2 d2 => ?_⟩
    exact k G2 H2 (v :: v2) s2 r2 (.var ev d2)
  · cases e
theorem qe_callO {x : Str} {k : Nat} {f : Addr} {fd : FuncData} {ps : List Str} {F : List Sl → Option (D × List Sl)} {n : Nat} {m : M (List Ar)} (FO : FnOk X.prog X.w X.K X.mg X.base CX0 k f fd ps (spO X.K F n)) (hr : Room k X.A) (hm : X.mg x = some (.ref f)) (hk : PySem.W.keepIn X.K (.ref f) = true) (hb : Binds X.K fd ps [])
    (ha : QY X (e :: es) m) (hF : FOk n F) (hg : Gl X x := by rfl) (hdb : (x == ("__debug__" : Str)) = false := by decide) (he : starEach (e :: es) X.env = (false, eval e X.env) :: starEach es X.env := by rfl) (hpl : (backTo pos (starEach es X.env)).any (·.1) = false := by rfl) :
    QE X (.Call (.Name x p) (e :: es) [] pos) (eAppO F m) := by
  refine PE.imp (pe_call (E := fun _ _ _ => False) FO hr hg hm hk hb .nil pass0 ha hdb he hpl) fun σ H Q h => ?_
  obtain ⟨R, G, ρ, d, ρ', rp, e, k⟩ := h
  unfold eAppO at e
  rw [Option.bind_eq_some_iff] at e
  obtain ⟨⟨as, ρ1⟩, h1, e⟩ := e
  simp only at e
  split at e
  · rename_i nd
    rw [Option.map_eq_some_iff] at e
    obtain ⟨⟨d', ss'⟩, h2, e⟩ := e
    cases e
    refine ⟨R, G, ρ, as, ρ1, rp, h1, fun G1 H1 vs s1 r1 d1 => ?_⟩
    show spO X.K F n (vs ++ []) H1 Q _
    rw [List.append_nil]
    refine ⟨by rw [d1.length, ← hF.len _ _ h2, List.length_map], ?_⟩
    obtain ⟨Rc, rep, back⟩ := r1.hand nd d1
    exact ⟨Rc, G1, _, d', ss', rep, h2, fun G2 H2 v s2 r2 dv => k G2 H2 v (s1.trans s2) (back G2 H2 ss' s2 r2) dv⟩
  · cases e
end

/-! ### a def that is given objects of its caller's -/
def pick : Sl → Sl → Sl
  | .own _, .own c => .own c
  | .own _, _ => .un
  | s, _ => s
def backO : List Sl → Ro → List Sl
  | [], _ => []
  | s :: ss, [] => s :: backO ss []
  | s :: ss, r :: rs => pick s r :: backO ss rs
/-- all own things stand at the places os -/
def ownsIn (os : List Nat) : Nat → List Sl → Bool
  | _, [] => true
  | i, .own _ :: ss => os.contains i && ownsIn os (i + 1) ss
  | i, .un :: ss => ownsIn os (i + 1) ss
  | i, .dat _ :: ss => ownsIn os (i + 1) ss
  | i, .scr _ :: ss => ownsIn os (i + 1) ss
  | i, .ref _ :: ss => ownsIn os (i + 1) ss
theorem ownsIn_get {os : List Nat} : ∀ (ss : List Sl) (i l : Nat) (c : Ow), ownsIn os i ss = true → ss[l]? = some (.own c) → i + l ∈ os
  | [], i, l, c, _, h => by simp at h
  | .own c0 :: ss, i, 0, c, h, _ => by
    unfold ownsIn at h
    rw [Bool.and_eq_true] at h
    simpa using h.1
  | .un :: ss, i, 0, c, h, e => by simp at e
  | .dat _ :: ss, i, 0, c, h, e => by simp at e
  | .scr _ :: ss, i, 0, c, h, e => by simp at e
  | .ref _ :: ss, i, 0, c, h, e => by simp at e
  | .own c0 :: ss, i, l + 1, c, h, e => by
    unfold ownsIn at h
    rw [Bool.and_eq_true] at h
    have := ownsIn_get ss (i + 1) l c h.2 (by simpa using e)
    rw [show i + (l + 1) = i + 1 + l by omega]; exact this
  | .un :: ss, i, l + 1, c, h, e => by
    have := ownsIn_get ss (i + 1) l c h (by simpa using e)
    rw [show i + (l + 1) = i + 1 + l by omega]; exact this
  | .dat _ :: ss, i, l + 1, c, h, e => by
    have := ownsIn_get ss (i + 1) l c h (by simpa using e)
    rw [show i + (l + 1) = i + 1 + l by omega]; exact this
  | .scr _ :: ss, i, l + 1, c, h, e => by
    have := ownsIn_get ss (i + 1) l c h (by simpa using e)
    rw [show i + (l + 1) = i + 1 + l by omega]; exact this
  | .ref _ :: ss, i, l + 1, c, h, e => by
    have := ownsIn_get ss (i + 1) l c h (by simpa using e)
    rw [show i + (l + 1) = i + 1 + l by omega]; exact this
def endO (ss : List Sl) : Fl × Ro → Option (D × List Sl)
  | (.rt d, ρ) => some (d, backO ss ρ)
  | (.nx, ρ) => some (.none, backO ss ρ)
  | _ => none
def runO (os : List Nat) (n N : Nat) (body : MS) : List Sl → Option (D × List Sl) := fun ss => if ss.length = n ∧ n ≤ N ∧ ownsIn os 0 ss = true then (body (ss ++ List.replicate (N - n) Sl.un)).bind fun p => if n ≤ p.2.length then endO ss p else none else none
theorem backO_get : ∀ (ss : List Sl) (ρ : Ro) (l : Nat) (s : Sl), ss.length ≤ ρ.length → (backO ss ρ)[l]? = some s → ∃ s0 r, ss[l]? = some s0 ∧ ρ[l]? = some r ∧ s = pick s0 r
  | [], _, l, s, _, h => by simp [backO] at h
  | s0 :: ss, [], l, s, hl, h => by simp at hl
  | s0 :: ss, r :: rs, 0, s, hl, h => by
    simp [backO] at h
    exact ⟨s0, r, rfl, rfl, h.symm⟩
  | s0 :: ss, r :: rs, l + 1, s, hl, h => by
    have h' : (backO ss rs)[l]? = some s := by simpa [backO] using h
    obtain ⟨a, b, c, d, e⟩ := backO_get ss rs l s (by simpa using hl) h'
    exact ⟨a, b, by simpa using c, by simpa using d, e⟩
theorem backO_length : ∀ (ss : List Sl) (ρ : Ro), (backO ss ρ).length = ss.length
  | [], _ => rfl
  | s :: ss, [] => by simp [backO, backO_length ss []]
  | s :: ss, r :: rs => by simp [backO, backO_length ss rs]
/-- the body keeps how many slots there are -/
def LenOk (b : MS) : Prop := ∀ ρ f ρ', b ρ = some (f, ρ') → ρ'.length = ρ.length
theorem pick_own {s r : Sl} {c : Ow} (h : pick s r = .own c) : (∃ c0, s = .own c0) ∧ r = .own c := by
  cases s with
  | un => cases h
  | dat d => cases h
  | scr ns => cases h
  | ref t => cases h
  | own c0 =>
    refine ⟨⟨c0, rfl⟩, ?_⟩
    cases r <;> first | (cases h; rfl) | cases h
theorem backO_own : ∀ (ss : List Sl) (ρ : Ro) (l : Nat) (c : Ow), (backO ss ρ)[l]? = some (.own c) → ∃ c0, ss[l]? = some (.own c0)
  | [], _, l, c, h => by simp [backO] at h
  | s0 :: ss, [], 0, c, h => by simp [backO] at h; exact ⟨c, by simp [h]⟩
  | s0 :: ss, [], l + 1, c, h => by
    obtain ⟨c0, e⟩ := backO_own ss [] l c (by simpa [backO] using h)
    exact ⟨c0, by simpa using e⟩
  | s0 :: ss, r :: rs, 0, c, h => by
    simp [backO] at h
    obtain ⟨⟨c0, e⟩, _⟩ := pick_own h
    exact ⟨c0, by simp [e]⟩
  | s0 :: ss, r :: rs, l + 1, c, h => by
    obtain ⟨c0, e⟩ := backO_own ss rs l c (by simpa [backO] using h)
    exact ⟨c0, by simpa using e⟩
theorem runO_ok {os : List Nat} {n N : Nat} {body : MS} : FOk n (runO os n N body) where
  len := by
    intro ss r h
    unfold runO at h
    split at h
    · rename_i z; exact z.1
    · cases h
  own := by
    intro ss d ss' l c h e
    unfold runO at h
    split at h
    · rw [Option.bind_eq_some_iff] at h
      obtain ⟨⟨f, ρ'⟩, h1, h⟩ := h
      split at h
      · cases f <;> cases h
        · exact backO_own _ _ l c e
        · exact backO_own _ _ l c e
      · cases h
    · cases h
theorem fOk0 {n : Nat} : FOk n (fun _ => none) := ⟨(fun _ _ h => nomatch h), (fun _ _ _ _ _ h => nomatch h)⟩
/-- os: the slots that callers' objects come to; they are never set -/
theorem fnO {P : Program} {w : World} {K : Fr} {mg : Str → Option Value} {base : Heap} {x qual : Str} {st : Stmt} {f : Addr} {fd : FuncData} {N ps : List Str} {k : Nat} {W : List Nat} {body : MS} (F : Fun K x qual st f fd) (S : FnScope N ps (defScope st))
    (h : ∀ (cdv : Value) (A : Around) (outer : List Env) (s : Shared) (H : Hp) (E : XK), Room k (A.deeper (envOfC qual (defScope st) s.heap.objs.size f cdv)) → QSs (cxOf CX0 P w K mg base N qual (defScope st) f cdv A outer s H E).nox W (defBody st) body)
    (os : List Nat) (hW : ∀ i ∈ os, i ∉ W) (hN : ps.length ≤ N.length := by decide) : FnOk P w K mg base CX0 (k + 1) f fd ps (spO K (runO os ps.length N.length body) ps.length) := by
  refine F.ok S (fun vs H Q E h => h.1) (fun cdv A outer s H vs Q E hr hsp => ⟨_, h cdv A outer s H E hr, ?_⟩)
  obtain ⟨hl, R, G, ss, d, ss', rp, e, k⟩ := hsp
  unfold runO at e
  split at e
  · rename_i hn
    obtain ⟨hn, _, ho⟩ := hn
    rw [Option.bind_eq_some_iff] at e
    obtain ⟨⟨fl, ρ'⟩, h1, e⟩ := e
    simp only at e
    by_cases hlen : ps.length ≤ ρ'.length
    rotate_left
    · rw [if_neg hlen] at e; cases e
    rw [if_pos hlen] at e
    have hss : ss.length = vs.length := by rw [hn, hl]
    have sget : ∀ l : Nat, l < vs.length → (L2.start N vs)[l]? = (vs.map some)[l]? := fun l hl' => by
      show (vs.map some ++ _)[l]? = _
      rw [List.getElem?_append_left (by simpa using hl')]
    have rep0 : Rep K R G H (ss ++ List.replicate (N.length - ps.length) Sl.un) (L2.start N vs) := by
      have key : ∀ (i : Nat) (t : Sl), (ss ++ List.replicate (N.length - ps.length) Sl.un)[i]? = some t → t = .un ∨ (ss[i]? = some t ∧ (L2.start N vs)[i]? = (vs.map some)[i]?) := fun i t ht => by
        by_cases hi : i < ss.length
        · rw [List.getElem?_append_left hi] at ht
          exact .inr ⟨ht, sget i (by rw [← hss]; exact hi)⟩
        · rw [List.getElem?_append_right (by omega), List.getElem?_replicate] at ht
          split at ht
          · exact .inl (Option.some.inj ht).symm
          · cases ht
      refine ⟨?_, rp.subR, rp.subG, rp.dis, fun i t ht => ?_, fun i j c c' p h1 h2 h3 h4 => ?_⟩
      · simp [L2.start, hss, hl]
      · rcases key i t ht with rfl | ⟨a, b⟩
        · trivial
        · rw [b]; exact rp.slot i t a
      · rcases key i _ h1 with z | ⟨a, b⟩
        · cases z
        · rcases key j _ h2 with z | ⟨a2, b2⟩
          · cases z
          · rw [b] at h3; rw [b2] at h4
            exact rp.apart i j c c' p a a2 h3 h4
    have fin : ∀ G' H' (σ' : L2.St), Same G G' → Rep K R G' H' ρ' σ' → Frm W (L2.start N vs) σ' → ss.length ≤ ρ'.length → Rep K R G' H' (backO ss ρ') (vs.map some) := fun G' H' σ' sG r fr hlen => by
      have own : ∀ (l : Nat) (c : Ow), (backO ss ρ')[l]? = some (.own c) → ρ'[l]? = some (.own c) ∧ σ'[l]? = (vs.map some)[l]? := fun l c hs => by
        obtain ⟨s0, r0, a, b, e⟩ := backO_get ss ρ' l _ hlen hs
        obtain ⟨⟨c0, rfl⟩, rfl⟩ := pick_own e.symm
        refine ⟨b, ?_⟩
        have hm := ownsIn_get ss 0 l c0 ho a
        rw [Nat.zero_add] at hm
        rw [fr l (hW l hm), sget l (by rw [← hss]; exact (List.getElem?_eq_some_iff.mp a).1)]
      refine ⟨by rw [backO_length, List.length_map]; exact hss, r.subR, r.subG, r.dis, fun l t ht => ?_, fun i j c c' p h1 h2 h3 h4 => ?_⟩
      · obtain ⟨s0, r0, a, b, e⟩ := backO_get ss ρ' l t hlen ht
        subst e
        have so := rp.slot l s0 a
        cases s0 with
        | un => trivial
        | dat d => obtain ⟨v, e, x⟩ := so; exact ⟨v, e, Dq_mono sG x⟩
        | scr ns => obtain ⟨v, e, x⟩ := so; exact ⟨v, e, sG.seq x⟩
        | ref t => exact SlT_mono sG so
        | own c0 =>
          cases r0 with
          | un => trivial
          | dat d => trivial
          | scr ns => trivial
          | ref t => trivial
          | own c =>
            obtain ⟨o1, o2⟩ := own l c ht
            have := r.slot l _ o1
            rw [o2] at this
            exact this
      · obtain ⟨a1, b1⟩ := own i c h1
        obtain ⟨a2, b2⟩ := own j c' h2
        exact r.apart i j c c' p a1 a2 (by rw [b1]; exact h3) (by rw [b2]; exact h4)
    refine ⟨R, G, _, fl, ρ', rep0, h1, ?_⟩
    have hlenσ : ∀ G' H' (σ' : L2.St), Rep K R G' H' ρ' σ' → Frm W (L2.start N vs) σ' → True := fun _ _ _ _ _ => trivial
    cases fl with
    | nx =>
      cases e
      intro G' H' σ' s r fr
      exact k G' H' _ s (fin G' H' σ' s r fr (by rw [hn]; exact hlen)) .non
    | bk => cases e
    | ct => cases e
    | rt d =>
      cases e
      exact fun G' H' σ' v s r fr dv => k G' H' v s (fin G' H' σ' s r fr (by rw [hn]; exact hlen)) dv
  · cases e
end QL
set_option Elab.async false
set_option linter.all false
set_option maxRecDepth 100000
set_option maxHeartbeats 1000000
namespace QL
open PySem PySem.Spec PyProof.Rows L2

/-! ### the script -/
def scrAt (ρ : Ro) (i : Nat) : Option (List Int) := match ρ[i]? with
  | some (.scr ns) => some ns
  | _ => none
theorem scrAt_some {ρ : Ro} {i : Nat} {ns : List Int} (h : scrAt ρ i = some ns) : ρ[i]? = some (.scr ns) := by
  unfold scrAt at h
  split at h
  · cases h; assumption
  · cases h
def eLenS (i : Nat) : M D := fun ρ => (scrAt ρ i).map fun ns => (.int ns.length, ρ)
def eIxS (i : Nat) (a : M D) : M D := fun ρ => (scrAt ρ i).bind fun ns => (a ρ).bind fun p => match p.1 with
  | .int j => (atI ns j).map fun n => (.int n, p.2)
  | _ => none
def eEqNilS (i : Nat) : M D := fun ρ => (scrAt ρ i).map fun ns => (.bool ns.isEmpty, ρ)
def eNeNilO (i : Nat) : M D := fun ρ => (ownL ρ i).bind fun ds => if SeqAt.shaped (.list ds) = true then some (.bool (!ds.isEmpty), ρ) else none
def eEqNilO (i : Nat) : M D := fun ρ => (ownL ρ i).bind fun ds => if SeqAt.shaped (.list ds) = true then some (.bool ds.isEmpty, ρ) else none
theorem canLay_ints : ∀ ns : List Int, PyData.canLayAll0 (ns.map PyData.int) = true
  | [] => rfl
  | n :: ns => by
    rw [List.map_cons]
    unfold PyData.canLayAll0
    rw [canLay_ints ns]
    rfl
theorem depth_ints : ∀ ns : List Int, PyData.depthAll (ns.map PyData.int) = 0
  | [] => rfl
  | n :: ns => by
    rw [List.map_cons]
    unfold PyData.depthAll
    rw [depth_ints ns]
    rfl
theorem shaped_ints (ns : List Int) : SeqAt.shaped (.list (ns.map PyData.int)) = true := by
  unfold SeqAt.shaped
  rw [Bool.and_eq_true]
  refine ⟨canLay_ints ns, decide_eq_true ?_⟩
  show PyData.depthAll (ns.map PyData.int) + 1 ≤ 64
  rw [depth_ints]
  decide
theorem dpAll_ints {K : Fr} {H : Hp} : ∀ ns : List Int, DpAll K H (ns.map V.int) (ns.map PyData.int)
  | [] => .nil
  | n :: ns => .cons (.int n) (dpAll_ints ns)
theorem atI_map {α β : Type} (f : α → β) (xs : List α) (i : Int) : atI (xs.map f) i = (atI xs i).map f := by
  unfold atI
  rw [List.length_map]
  cases ixN xs.length i with
  | none => rfl
  | some j => simp
theorem eqv_nil (ds : List D) : PyData.eqv (.list ds) (.list []) = ds.isEmpty := by
  show PyData.eqvAll ds [] = _
  cases ds <;> rfl
section
variable {X : Cx} {a e : Expr} {es : List Expr} {pos p p2 : Pos} {x : Str} {k : Nat}
theorem qe_lenS (i : Nat) (hm : X.mg "len" = none) (hN : X.N[i]? = some x := by rfl) (hv : Vis X.env.scope x := by first | exact Or.inl rfl | exact Or.inr (Or.inl rfl) | exact Or.inr (Or.inr rfl)) (hd : (x == ("__debug__" : Str)) = false := by decide) (hcd : (x == ("__classdict__" : Str)) = false := by decide) (hg : Gl X "len" := by rfl)
    (hs : starEach [.Name x p] X.env = (false, eval (.Name x p) X.env) :: starEach [] X.env := by rfl) (hpl : (backTo pos (starEach [] X.env)).any (·.1) = false := by rfl) : QE X (.Call (.Name "len" p2) [.Name x p] [] pos) (eLenS i) := by
  refine PE.imp (pe_callB call_len_seq hg hm PySem.boot_len (pa_cons (pe_var hN hv hd hcd) pa_nil hs) (by decide) (by decide) hs hpl) fun σ H Q h => ?_
  obtain ⟨R, G, ρ, d, ρ', rp, e, k⟩ := h
  unfold eLenS at e
  rw [Option.map_eq_some_iff] at e
  obtain ⟨ns, h0, e⟩ := e
  cases e
  obtain ⟨q, eq, hq⟩ := rp.slot i _ (scrAt_some h0)
  refine ⟨.ref q, eq, q, _, rfl, .inl (rp.subG.seq hq), ?_⟩
  rw [List.length_map]
  exact k G H _ (.refl _) rp (.int _)
theorem qe_ixS (i : Nat) {m : M D} (ha : QE X a m) (hN : X.N[i]? = some x := by rfl) (hv : Vis X.env.scope x := by first | exact Or.inl rfl | exact Or.inr (Or.inl rfl) | exact Or.inr (Or.inr rfl)) (hd : (x == ("__debug__" : Str)) = false := by decide) (hcd : (x == ("__classdict__" : Str)) = false := by decide) (hs : PlainIx a := by exact fun _ _ => rfl) :
    QE X (.Subscript (.Name x p) a pos) (eIxS i m) := by
  refine PE.imp (pe_ix ix_list (pe_var hN hv hd hcd) ha hs) fun σ H Q h => ?_
  obtain ⟨R, G, ρ, d, ρ', rp, e, k⟩ := h
  unfold eIxS at e
  rw [Option.bind_eq_some_iff] at e
  obtain ⟨ns, h0, e⟩ := e
  rw [Option.bind_eq_some_iff] at e
  obtain ⟨⟨y, ρ1⟩, h1, e⟩ := e
  cases y <;> try (cases e; done)
  rename_i j
  simp only at e
  rw [Option.map_eq_some_iff] at e
  obtain ⟨z, hz, e⟩ := e
  cases e
  obtain ⟨q, eq, hq⟩ := rp.slot i _ (scrAt_some h0)
  refine ⟨.ref q, eq, R, G, ρ, .int j, _, rp, h1, fun G1 H1 v1 s1 r1 d1 => ?_⟩
  cases d1
  exact ⟨q, _, j, .int z, rfl, rfl, r1.subG.seq (s1.seq hq), by rw [atI_map, hz]; rfl, k G1 H1 _ s1 r1 (.int _)⟩
theorem eqNilS_read {i : Nat} {σ : St} {H : Hp} {Q : VK} {K : Fr} (h : tM K (eEqNilS i) σ H Q) : tOp (rEqD K) (tVar i) (tLst tNil) σ H Q := by
  obtain ⟨R, G, ρ, d, ρ', rp, e, k⟩ := h
  unfold eEqNilS at e
  rw [Option.map_eq_some_iff] at e
  obtain ⟨ns, h0, e⟩ := e
  cases e
  obtain ⟨q, eq, hq⟩ := rp.slot i _ (scrAt_some h0)
  refine ⟨.ref q, eq, by decide, fun l hl => ?_⟩
  have g : Gr G H G (upd H l (.lst [])) := Gr.junk rp.subG hl
  refine ⟨.list (ns.map PyData.int), .list [], .lst (g.hh.seq (rp.subG.seq hq)) (dpAll_ints ns), .lst (SqL.of upd_same) .nil, shaped_ints ns, by decide, ?_⟩
  have e1 : PyData.eqv (.list (ns.map PyData.int)) (.list []) = ns.isEmpty := by
    rw [eqv_nil]
    cases ns <;> rfl
  rw [e1]
  exact k G _ _ (.refl _) (rp.grow g) (.bl _)
theorem qe_eqNilS (i : Nat) (hr : Room k X.A) (hN : X.N[i]? = some x := by rfl) (hv : Vis X.env.scope x := by first | exact Or.inl rfl | exact Or.inr (Or.inl rfl) | exact Or.inr (Or.inr rfl)) (hd : (x == ("__debug__" : Str)) = false := by decide) (hcd : (x == ("__classdict__" : Str)) = false := by decide) :
    QE X (.Compare (.Name x p) [.Eq] [.List [] p2] pos) (eEqNilS i) := PE.imp (pe_cmpR (op_eqD hr.units) (pe_var hN hv hd hcd) (pe_lst pa_nil) (nomark _)) fun σ H Q h => eqNilS_read h
theorem qt_eqNilS (i : Nat) (hr : Room k X.A) (hN : X.N[i]? = some x := by rfl) (hv : Vis X.env.scope x := by first | exact Or.inl rfl | exact Or.inr (Or.inl rfl) | exact Or.inr (Or.inr rfl)) (hd : (x == ("__debug__" : Str)) = false := by decide) (hcd : (x == ("__classdict__" : Str)) = false := by decide) :
    QT X (.Compare (.Name x p) [.Eq] [.List [] p2] pos) (cV (eEqNilS i)) := PT.imp (pt_cmpR (op_eqD hr.units) (pe_var hN hv hd hcd) (pe_lst pa_nil) (nomark _)) fun σ H Q h => eqNilS_read (tM_cV h)
theorem neNilO_read {i : Nat} {σ : St} {H : Hp} {Q : VK} {K : Fr} (h : tM K (eNeNilO i) σ H Q) : tOp (rNeD K) (tVar i) (tLst tNil) σ H Q := by
  obtain ⟨R, G, ρ, d, ρ', rp, e, k⟩ := h
  unfold eNeNilO at e
  rw [Option.bind_eq_some_iff] at e
  obtain ⟨ds, h0, e⟩ := e
  split at e
  · rename_i hsh
    cases e
    obtain ⟨q, vs, eq, hq, dv⟩ := rp.ownAt (ownL_some h0)
    refine ⟨.ref q, eq, by decide, fun l hl => ?_⟩
    have g : Gr G H G (upd H l (.lst [])) := Gr.junk rp.subG hl
    refine ⟨.list ds, .list [], .lst (SqL.of (g.hh _ _ hq)) (DqAll.dp (rp.subG.trans g.hh) dv (shaped_layAll hsh)), .lst (SqL.of upd_same) .nil, hsh, by decide, ?_⟩
    rw [eqv_nil]
    exact k G _ _ (.refl _) (rp.grow g) (.bl _)
  · cases e
theorem eqNilO_read {i : Nat} {σ : St} {H : Hp} {Q : VK} {K : Fr} (h : tM K (eEqNilO i) σ H Q) : tOp (rEqD K) (tVar i) (tLst tNil) σ H Q := by
  obtain ⟨R, G, ρ, d, ρ', rp, e, k⟩ := h
  unfold eEqNilO at e
  rw [Option.bind_eq_some_iff] at e
  obtain ⟨ds, h0, e⟩ := e
  split at e
  · rename_i hsh
    cases e
    obtain ⟨q, vs, eq, hq, dv⟩ := rp.ownAt (ownL_some h0)
    refine ⟨.ref q, eq, by decide, fun l hl => ?_⟩
    have g : Gr G H G (upd H l (.lst [])) := Gr.junk rp.subG hl
    refine ⟨.list ds, .list [], .lst (SqL.of (g.hh _ _ hq)) (DqAll.dp (rp.subG.trans g.hh) dv (shaped_layAll hsh)), .lst (SqL.of upd_same) .nil, hsh, by decide, ?_⟩
    rw [eqv_nil]
    exact k G _ _ (.refl _) (rp.grow g) (.bl _)
  · cases e
theorem qe_neNilO (i : Nat) (hr : Room k X.A) (hN : X.N[i]? = some x := by rfl) (hv : Vis X.env.scope x := by first | exact Or.inl rfl | exact Or.inr (Or.inl rfl) | exact Or.inr (Or.inr rfl)) (hd : (x == ("__debug__" : Str)) = false := by decide) (hcd : (x == ("__classdict__" : Str)) = false := by decide) :
    QE X (.Compare (.Name x p) [.NotEq] [.List [] p2] pos) (eNeNilO i) := PE.imp (pe_cmpR (op_neD hr.units) (pe_var hN hv hd hcd) (pe_lst pa_nil) (nomark _)) fun σ H Q h => neNilO_read h
theorem qt_neNilO (i : Nat) (hr : Room k X.A) (hN : X.N[i]? = some x := by rfl) (hv : Vis X.env.scope x := by first | exact Or.inl rfl | exact Or.inr (Or.inl rfl) | exact Or.inr (Or.inr rfl)) (hd : (x == ("__debug__" : Str)) = false := by decide) (hcd : (x == ("__classdict__" : Str)) = false := by decide) :
    QT X (.Compare (.Name x p) [.NotEq] [.List [] p2] pos) (cV (eNeNilO i)) := PT.imp (pt_cmpR (op_neD hr.units) (pe_var hN hv hd hcd) (pe_lst pa_nil) (nomark _)) fun σ H Q h => neNilO_read (tM_cV h)
theorem qe_eqNilO (i : Nat) (hr : Room k X.A) (hN : X.N[i]? = some x := by rfl) (hv : Vis X.env.scope x := by first | exact Or.inl rfl | exact Or.inr (Or.inl rfl) | exact Or.inr (Or.inr rfl)) (hd : (x == ("__debug__" : Str)) = false := by decide) (hcd : (x == ("__classdict__" : Str)) = false := by decide) :
    QE X (.Compare (.Name x p) [.Eq] [.List [] p2] pos) (eEqNilO i) := PE.imp (pe_cmpR (op_eqD hr.units) (pe_var hN hv hd hcd) (pe_lst pa_nil) (nomark _)) fun σ H Q h => eqNilO_read h
theorem qt_eqNilO (i : Nat) (hr : Room k X.A) (hN : X.N[i]? = some x := by rfl) (hv : Vis X.env.scope x := by first | exact Or.inl rfl | exact Or.inr (Or.inl rfl) | exact Or.inr (Or.inr rfl)) (hd : (x == ("__debug__" : Str)) = false := by decide) (hcd : (x == ("__classdict__" : Str)) = false := by decide) :
    QT X (.Compare (.Name x p) [.Eq] [.List [] p2] pos) (cV (eEqNilO i)) := PT.imp (pt_cmpR (op_eqD hr.units) (pe_var hN hv hd hcd) (pe_lst pa_nil) (nomark _)) fun σ H Q h => eqNilO_read (tM_cV h)

/-! ### name += e (ints) -/
def sAug (i : Nat) (a : M D) : MS := fun ρ => match ρ[i]? with
  | some (.dat (.int n)) => (a ρ).bind fun p => match p.1 with
    | .int j => some (.nx, p.2.set i (.dat (.int (n + j))))
    | _ => none
  | _ => none
theorem qs_aug (i : Nat) {m : M D} {pos' : Pos} (hN : X.N.Nodup) (he : QE X e m) (hi : X.N[i]? = some x := by rfl) (hx : Loc X.env.scope x := by first | exact Or.inl rfl | exact Or.inr rfl) (hf : X.fn x = true ∨ X.env.scope.names.lookup x = some .local := by first | exact .inl rfl | exact .inr rfl | assumption) :
    QS X [i] (.AugAssign (.Name x pos') .Add e pos) (sAug i m) := by
  refine PS.imp (ps_aug hN hi hx he ip_add hf) fun E σ H h => ?_
  obtain ⟨R, G, ρ, f, ρ', rp, e, k⟩ := h
  unfold sAug at e
  split at e
  · rename_i n hs
    rw [Option.bind_eq_some_iff] at e
    obtain ⟨⟨y, ρ1⟩, h1, e⟩ := e
    cases y <;> try (cases e; done)
    rename_i j
    cases e
    obtain ⟨v, ev, dv⟩ := rp.slot i _ hs
    cases dv
    refine ⟨.int n, ev, R, G, ρ, .int j, ρ1, rp, h1, fun G1 H1 v1 s1 r1 d1 => ?_⟩
    cases d1
    exact ⟨n, j, rfl, rfl, k G1 H1 _ s1 (r1.setD (.int _)) (fun l hl => List.getElem?_set_ne fun z => hl (by simp [z]))⟩
  · cases e
/-! ### an own list from an expression that makes a new one -/
/-- [x] * n, to be owned -/
def oRep (a b : M D) : M Ow := fun ρ => (a ρ).bind fun p => (b p.2).bind fun q => match p.1, q.1 with
  | .list xs, .int k => if 0 ≤ k ∧ k ≤ 1000 ∧ xs.length ≤ 1000 then some (.lst (List.replicate k.toNat xs).flatten, q.2) else none
  | _, _ => none
theorem qo_rep {b : Expr} {m n : M D} (ha : QE X a m) (hb : QE X b n) : QO X (.BinOp a .Mult b pos) (oRep m n) := by
  refine PE.imp (pe_op op_rep ha hb) fun σ H Q h => ?_
  obtain ⟨R, G, ρ, c, ρ', rp, e, k⟩ := h
  unfold oRep at e
  rw [Option.bind_eq_some_iff] at e
  obtain ⟨⟨x, ρ1⟩, h1, e⟩ := e
  rw [Option.bind_eq_some_iff] at e
  obtain ⟨⟨y, ρ2⟩, h2, e⟩ := e
  refine ⟨R, G, ρ, x, ρ1, rp, h1, fun G1 H1 v1 s1 r1 d1 => ?_⟩
  refine ⟨R, G1, ρ1, y, ρ2, r1, h2, fun G2 H2 v2 s2 r2 d2 => ?_⟩
  cases x <;> try (cases e; done)
  cases y <;> try (cases e; done)
  simp only at e
  split at e
  · rename_i hl
    cases e
    have d1' := Dq_mono s2 d1
    cases d1' with
    | lst h1 a1 =>
      cases d2
      refine ⟨_, _, _, rfl, rfl, r2.subG _ _ h1, by omega, by omega, ?_, fun p hp => k G2 _ p (s1.trans s2) (r2.pushNew hp (ho := .lst _) (a1.rep _))⟩
      rw [a1.length]
      exact size_of (Nat.le_trans (Nat.mul_le_mul hl.2.2 (show Int.toNat _ ≤ 1000 by omega)) (by decide))
  · cases e
/-- list(x), to be owned -/
def oList (as : M (List D)) : M Ow := fun ρ => (as ρ).bind fun p => match p.1 with
  | [.list xs] => some (.lst xs, p.2)
  | [.tuple xs] => some (.lst xs, p.2)
  | _ => none
theorem qo_list {m : M (List D)} (hm : X.mg "list" = none) (ha : QA X [e] m) (hg : Gl X "list" := by rfl) (hv : bootBuiltins "list" = some (.type "list") := by decide +kernel)
    (he : starEach [e] X.env = (false, eval e X.env) :: starEach [] X.env := by rfl) (hpl : (backTo pos (starEach [] X.env)).any (·.1) = false := by rfl) : QO X (.Call (.Name "list" p) [e] [] pos) (oList m) := by
  refine PE.imp (pe_callTy call_list_of hg hm hv ha (by decide) (by decide) he hpl) fun σ H Q h => ?_
  obtain ⟨R, G, ρ, c, ρ', rp, e, k⟩ := h
  unfold oList at e
  rw [Option.bind_eq_some_iff] at e
  obtain ⟨⟨xs, ρ1⟩, h1, e⟩ := e
  refine ⟨R, G, ρ, xs, ρ1, rp, h1, fun G1 H1 v1 s1 r1 d1 => ?_⟩
  simp only at e
  split at e
  · cases e
    obtain ⟨v, rfl, hd⟩ := one_of d1
    cases hd with
    | lst h1 a1 => exact ⟨_, _, rfl, .inl (SqL.of (r1.subG _ _ h1)), fun l hl => k G1 _ l s1 (r1.pushNew hl (ho := .lst _) a1)⟩
  · cases e
    obtain ⟨v, rfl, hd⟩ := one_of d1
    cases hd with
    | tup h1 a1 => exact ⟨_, _, rfl, .inr (SqT_mono r1.subG h1), fun l hl => k G1 _ l s1 (r1.pushNew hl (ho := .lst _) a1)⟩
  · cases e
end

/-! ### zip of two lists, of two tuples; enumerate of a list -/
def zipL (xs ys : List D) : List D := (xs.zip ys).map fun p => .tuple [p.1, p.2]
def zipD : List D → Option (List D)
  | [.list xs, .list ys] => some (zipL xs ys)
  | [.tuple xs, .tuple ys] => some (zipL xs ys)
  | _ => none
theorem zipL_length (xs ys : List D) : (zipL xs ys).length = min xs.length ys.length := by simp [zipL]
theorem zipL_get {xs ys : List D} {i : Nat} {d : D} (h : (zipL xs ys)[i]? = some d) : ∃ x y, xs[i]? = some x ∧ ys[i]? = some y ∧ d = .tuple [x, y] := by
  unfold zipL at h
  rw [List.getElem?_map] at h
  cases q : (xs.zip ys)[i]? with
  | none => rw [q] at h; cases h
  | some p =>
    rw [q] at h
    cases h
    rw [List.getElem?_zip_eq_some] at q
    exact ⟨p.1, p.2, q.1, q.2, rfl⟩
theorem walk_zipL {K : Fr} {G : Hp} {a b : Addr} {xs ys : List D} (ha : Dq K G (.ref a) (.list xs)) (hb : Dq K G (.ref b) (.list ys)) : WalkD K (Itz K a b) G (zipL xs ys) := by
  cases ha with
  | lst h1 a1 =>
    rename_i us
    cases hb with
    | lst h2 a2 =>
      rename_i ws
      have sq1 : ∀ G' H, Same G G' → Same G' H → SqL K H a us := fun G' H s1 s2 => SqL.of (s2 _ _ (s1 _ _ h1))
      have sq2 : ∀ G' H, Same G G' → Same G' H → SqL K H b ws := fun G' H s1 s2 => SqL.of (s2 _ _ (s1 _ _ h2))
      have l1 := a1.length
      have l2 := a2.length
      refine ⟨fun i G' H s1 s2 hi => ?_, fun i G' H s1 s2 hi => ?_, fun i G' H v H' d s1 s2 hd hy => ?_⟩
      · rw [zipL_length] at hi
        exact ⟨us, ws, us[i]'(by omega), ws[i]'(by omega), sq1 G' H s1 s2, sq2 G' H s1 s2, by simp, by simp⟩
      · rw [zipL_length] at hi
        exact ⟨us, ws, sq1 G' H s1 s2, sq2 G' H s1 s2, by omega⟩
      · obtain ⟨T, x, y, rfl, hT, rfl, f1, f2⟩ := hy
        obtain ⟨dx, dy, e1, e2, rfl⟩ := zipL_get hd
        refine ⟨_, Gr.new s2 hT, .tup (SqT.of upd_same) ?_⟩
        have gg := (Gr.new (o := .tup [x, y]) s2 hT).gg
        exact .cons (Dq_mono (s1.trans gg) (a1.idx e1 (f1 us (sq1 G' H s1 s2)))) (.cons (Dq_mono (s1.trans gg) (a2.idx e2 (f2 ws (sq2 G' H s1 s2)))) .nil)
theorem walk_zipT {K : Fr} {G : Hp} {a b : Addr} {xs ys : List D} (ha : Dq K G (.ref a) (.tuple xs)) (hb : Dq K G (.ref b) (.tuple ys)) : WalkD K (RZ.ItzT K a b) G (zipL xs ys) := by
  cases ha with
  | tup h1 a1 =>
    rename_i us
    cases hb with
    | tup h2 a2 =>
      rename_i ws
      have sq1 : ∀ G' H, Same G G' → Same G' H → SqT K H a us := fun G' H s1 s2 => SqT_mono s2 (SqT_mono s1 h1)
      have sq2 : ∀ G' H, Same G G' → Same G' H → SqT K H b ws := fun G' H s1 s2 => SqT_mono s2 (SqT_mono s1 h2)
      have l1 := a1.length
      have l2 := a2.length
      refine ⟨fun i G' H s1 s2 hi => ?_, fun i G' H s1 s2 hi => ?_, fun i G' H v H' d s1 s2 hd hy => ?_⟩
      · rw [zipL_length] at hi
        exact ⟨us, ws, us[i]'(by omega), ws[i]'(by omega), sq1 G' H s1 s2, sq2 G' H s1 s2, by simp, by simp⟩
      · rw [zipL_length] at hi
        exact ⟨us, ws, sq1 G' H s1 s2, sq2 G' H s1 s2, by omega⟩
      · obtain ⟨T, x, y, rfl, hT, rfl, f1, f2⟩ := hy
        obtain ⟨dx, dy, e1, e2, rfl⟩ := zipL_get hd
        refine ⟨_, Gr.new s2 hT, .tup (SqT.of upd_same) ?_⟩
        have gg := (Gr.new (o := .tup [x, y]) s2 hT).gg
        exact .cons (Dq_mono (s1.trans gg) (a1.idx e1 (f1 us (sq1 G' H s1 s2)))) (.cons (Dq_mono (s1.trans gg) (a2.idx e2 (f2 ws (sq2 G' H s1 s2)))) .nil)
section
variable {X : Cx} {e e2 : Expr} {p pos tpos : Pos} {elts : List Expr} {kk : Nat}
theorem qi_zip {m : M (List D)} (hm : X.mg "zip" = none) (ha : QA X [e, e2] m) (hg : Gl X "zip" := by rfl) (hs : starEach [e, e2] X.env = (false, eval e X.env) :: starEach [e2] X.env := by rfl) (hpl : (backTo pos (starEach [e2] X.env)).any (·.1) = false := by rfl) :
    QI X (.Tuple elts kk tpos) (.Call (.Name "zip" p) [e, e2] [] pos) (iApp zipD m) := by
  refine PI.imp (RZ.pi_zipA hg hm ha hs hpl) fun σ H Q h => ?_
  obtain ⟨R, G, ρ, ds, ρ', rp, e, k⟩ := h
  obtain ⟨xs, h1, h2⟩ := iApp_some e
  refine ⟨R, G, ρ, _, _, rp, h1, fun G1 H1 v1 s1 r1 d1 => ?_⟩
  unfold zipD at h2
  split at h2
  · cases h2
    obtain ⟨v, w, rfl, da, db⟩ := two_of d1
    cases id da with
    | lst ha1 _ =>
      cases id db with
      | lst hb1 _ => exact ⟨_, _, _, _, rfl, .inl ⟨SqL.of (r1.subG _ _ ha1), SqL.of (r1.subG _ _ hb1), k G1 H1 _ s1 r1 (walk_zipL da db)⟩⟩
  · cases h2
    obtain ⟨v, w, rfl, da, db⟩ := two_of d1
    cases id da with
    | tup ha1 _ =>
      cases id db with
      | tup hb1 _ => exact ⟨_, _, _, _, rfl, .inr ⟨SqT_mono r1.subG ha1, SqT_mono r1.subG hb1, k G1 H1 _ s1 r1 (walk_zipT da db)⟩⟩
  · cases h2
end
/-! ### a def that is not called (the depth is used up) -/
theorem fnP0 {P : Program} {w : World} {K : Fr} {mg : Str → Option Value} {base : Heap} {CX : CXT} {k : Nat} {f : Addr} {fd : FuncData} {ps : List Str} {n : Nat} {F : List D → Option D} (hF : ∀ ds, F ds = none) (hn : n = ps.length) : FnOk P w K mg base CX k f fd ps (spP K F n) :=
  ⟨fun vs H Q E h => h.1.trans hn, fun A outer s H args us vs Q E _ _ _ _ h => by obtain ⟨_, _, _, _, _, _, e, _⟩ := h; rw [hF] at e; cases e⟩
theorem fnO0 {P : Program} {w : World} {K : Fr} {mg : Str → Option Value} {base : Heap} {CX : CXT} {k : Nat} {f : Addr} {fd : FuncData} {ps : List Str} {n : Nat} {F : List Sl → Option (D × List Sl)} (hF : ∀ ds, F ds = none) (hn : n = ps.length) : FnOk P w K mg base CX k f fd ps (spO K F n) :=
  ⟨fun vs H Q E h => h.1.trans hn, fun A outer s H args us vs Q E _ _ _ _ h => by obtain ⟨_, _, _, _, _, _, _, e, _⟩ := h; rw [hF] at e; cases e⟩
/-- the law: True of every script -/
def spLaw (K : Fr) : Sp := fun vs H Q _ => ∃ (a : Addr) (ns : List Int), vs = [.ref a] ∧ SqL K H a (ns.map V.int) ∧ ns.length ≤ 63 ∧ ∀ H', Q (.bl true) H'
theorem law_of {P : Program} {w : World} {K : Fr} {mg : Str → Option Value} {base : Heap} {CX : CXT} {k : Nat} {f : Addr} {fd : FuncData} {ps : List Str} {F : List Sl → Option (D × List Sl)} (h : FnOk P w K mg base CX k f fd ps (spO K F 1)) (hF : ∀ ns : List Int, ns.length ≤ 63 → ∃ ss, F [.scr ns] = some (.bool true, ss)) : FnOk P w K mg base CX k f fd ps (spLaw K) := by
  refine h.imp fun vs H Q E hs => ?_
  obtain ⟨a, ns, rfl, hl, h63, q⟩ := hs
  obtain ⟨ss, e⟩ := hF ns h63
  refine ⟨rfl, fun _ => none, H, [.scr ns], .bool true, ss, ⟨rfl, fun _ _ z => (by cases z), .refl _, fun _ _ z => (by cases z), fun i s hi => ?_, fun i j c c' p h1 _ _ _ => ?_⟩, e, fun G' H' v _ _ dv => ?_⟩
  · cases i with
    | zero => cases hi; exact ⟨a, rfl, hl⟩
    | succ i => simp at hi
  · cases i with
    | zero => cases h1
    | succ i => simp at h1
  · cases dv; exact q H'
end QL
set_option Elab.async false
set_option linter.all false
set_option maxRecDepth 100000
set_option maxHeartbeats 1000000
namespace QL
open PySem PySem.Spec PyProof.Rows L2

/-! ### dicts with whole numbers as keys -/
def getD : List (D × D) → Int → Option D
  | [], _ => none
  | (.int i, d) :: r, k => if i = k then some d else getD r k
  | _ :: r, k => getD r k
theorem DqKv.val {K : Fr} {G : Hp} {k : Int} : ∀ {us : List (Key × V)} {ds : List (D × D)}, DqKv K G us ds → (getD ds k = none ∧ valV us (Sum.inl k) = none) ∨ ∃ d v, getD ds k = some d ∧ valV us (Sum.inl k) = some v ∧ Dq K G v d
  | _, _, .nil => .inl ⟨rfl, rfl⟩
  | _, _, .cons (i := i) (v := v) (d := d) (vs := us) h t => by
    by_cases q : i = k
    · subst q
      exact .inr ⟨d, v, by unfold getD; rw [if_pos rfl], by unfold valV; rw [List.find?_cons_of_pos (by simp)]; rfl, h⟩
    · have e1 : valV ((Sum.inl i, v) :: us) (Sum.inl k) = valV us (Sum.inl k) := by
        unfold valV
        rw [List.find?_cons_of_neg (by simp [q])]
      rcases DqKv.val (k := k) t with ⟨a, b⟩ | ⟨d', v', a, b, c⟩
      · exact .inl ⟨by unfold getD; rw [if_neg q]; exact a, by rw [e1]; exact b⟩
      · exact .inr ⟨d', v', by unfold getD; rw [if_neg q]; exact a, by rw [e1]; exact b, c⟩
def keysOf (ds : List (D × D)) : List D := ds.map Prod.fst
theorem DqKv.length {K : Fr} {G : Hp} : ∀ {us : List (Key × V)} {ds : List (D × D)}, DqKv K G us ds → us.length = ds.length
  | _, _, .nil => rfl
  | _, _, .cons _ t => by rw [List.length_cons, List.length_cons, DqKv.length t]
theorem DqKv.key {K : Fr} {G : Hp} : ∀ {us : List (Key × V)} {ds : List (D × D)} {i : Nat} {k : Key} {v : V} {d : D}, DqKv K G us ds → us[i]? = some (k, v) → (keysOf ds)[i]? = some d → Dq K G (kV k) d
  | _, _, 0, _, _, _, .cons (i := i) h t, e, e2 => by
    cases e
    cases e2
    exact .int i
  | _, _, n + 1, _, _, _, .cons h t, e, e2 => DqKv.key (i := n) t e e2
theorem DqKv.keys {K : Fr} {G : Hp} : ∀ {us : List (Key × V)} {ds : List (D × D)}, DqKv K G us ds → DqAll K G (us.map fun kv => kV kv.1) (keysOf ds)
  | _, _, .nil => .nil
  | _, _, .cons (i := i) h t => .cons (.int i) (DqKv.keys t)
def dIxD : D → D → Option D
  | .dict ds, .int k => getD ds k
  | _, _ => none
def dInK : D → D → Option D
  | .int k, .dict ds => some (.bool (getD ds k).isSome)
  | _, _ => none
def dNotInK : D → D → Option D
  | .int k, .dict ds => some (.bool (!(getD ds k).isSome))
  | _, _ => none
def iKeysD (a : M D) : M (List D) := fun ρ => (a ρ).bind fun p => match p.1 with
  | .dict ds => some (keysOf ds, p.2)
  | _ => none
theorem bind2' {f : D → D → Option D} {m n : M D} {ρ : Ro} {z : D} {ρ2 : Ro} (h : eOp2 f m n ρ = some (z, ρ2)) : ∃ x ρ1 y, m ρ = some (x, ρ1) ∧ n ρ1 = some (y, ρ2) ∧ f x y = some z := by
  unfold eOp2 at h
  rw [Option.bind_eq_some_iff] at h
  obtain ⟨⟨x, ρ1⟩, h1, h⟩ := h
  rw [Option.bind_eq_some_iff] at h
  obtain ⟨⟨y, ρ3⟩, h2, h⟩ := h
  rw [Option.map_eq_some_iff] at h
  obtain ⟨w, h3, h⟩ := h
  cases h
  exact ⟨x, ρ1, y, h1, h2, h3⟩
theorem units1 {k : Nat} {A : Around} (hr : Room k A) : A.units + 1 < cLine := by
  have := hr.units
  omega
section
variable {X : Cx} {a e o i : Expr} {es : List Expr} {pos p p2 : Pos} {k : Nat}
theorem qe_ixD {m n : M D} (hr : Room k X.A) (ho : QE X o m) (hi : QE X i n) (hs : NoSl i := by exact fun _ _ => rfl) : QE X (.Subscript o i pos) (eOp2 dIxD m n) := by
  refine PE.imp (pe_dget (units1 hr) ho hi hs) fun σ H Q h => ?_
  obtain ⟨R, G, ρ, d, ρ', rp, e, k⟩ := h
  obtain ⟨x, ρ1, y, h1, h2, h3⟩ := bind2' e
  refine ⟨R, G, ρ, x, ρ1, rp, h1, fun G1 H1 v1 s1 r1 d1 => ⟨R, G1, ρ1, y, _, r1, h2, fun G2 H2 v2 s2 r2 d2 => ?_⟩⟩
  unfold dIxD at h3
  split at h3
  · cases d1 with
    | dic ha hv =>
      cases d2
      rename_i us o1 o2
      rcases DqKv.val (DqKv_mono s2 hv) with ⟨q, _⟩ | ⟨d', v', q1, q2, q3⟩
      · rw [q] at h3; cases h3
      · rw [q1] at h3
        cases h3
        exact ⟨_, v', rfl, .inl ⟨_, Sum.inl _, .inr ⟨_, r2.subG _ _ (s2 _ _ ha)⟩, rfl, q2.symm⟩, k G2 H2 _ (s1.trans s2) r2 q3⟩
  · cases h3
theorem tDIn_of {K : Fr} {m n : M D} {σ : St} {H : Hp} {Q : VK} (h : tM K (eOp2 dInK m n) σ H Q) : tDIn (tM K m) (tM K n) σ H Q := by
  obtain ⟨R, G, ρ, d, ρ', rp, e, k⟩ := h
  obtain ⟨x, ρ1, y, h1, h2, h3⟩ := bind2' e
  refine ⟨R, G, ρ, x, ρ1, rp, h1, fun G1 H1 v1 s1 r1 d1 => ⟨R, G1, ρ1, y, _, r1, h2, fun G2 H2 v2 s2 r2 d2 => ?_⟩⟩
  unfold dInK at h3
  split at h3
  · cases d2 with
    | dic ha hv =>
      cases d1
      cases h3
      rcases DqKv.val hv with ⟨q, q2⟩ | ⟨d', v', q1, q2, q3⟩
      · refine ⟨_, none, rfl, .inl ⟨_, Sum.inl _, .inr ⟨_, r2.subG _ _ ha⟩, rfl, q2.symm⟩, ?_⟩
        have := k G2 H2 (.bl false) (s1.trans s2) r2 (by rw [q]; exact .bl _)
        exact this
      · refine ⟨_, some v', rfl, .inl ⟨_, Sum.inl _, .inr ⟨_, r2.subG _ _ ha⟩, rfl, q2.symm⟩, ?_⟩
        exact k G2 H2 (.bl true) (s1.trans s2) r2 (by rw [q1]; exact .bl _)
  · cases h3
theorem tDNotIn_of {K : Fr} {m n : M D} {σ : St} {H : Hp} {Q : VK} (h : tM K (eOp2 dNotInK m n) σ H Q) : tDNotIn (tM K m) (tM K n) σ H Q := by
  obtain ⟨R, G, ρ, d, ρ', rp, e, k⟩ := h
  obtain ⟨x, ρ1, y, h1, h2, h3⟩ := bind2' e
  refine ⟨R, G, ρ, x, ρ1, rp, h1, fun G1 H1 v1 s1 r1 d1 => ⟨R, G1, ρ1, y, _, r1, h2, fun G2 H2 v2 s2 r2 d2 => ?_⟩⟩
  unfold dNotInK at h3
  split at h3
  · cases d2 with
    | dic ha hv =>
      cases d1
      cases h3
      rcases DqKv.val hv with ⟨q, q2⟩ | ⟨d', v', q1, q2, q3⟩
      · refine ⟨_, none, rfl, .inl ⟨_, Sum.inl _, .inr ⟨_, r2.subG _ _ ha⟩, rfl, q2.symm⟩, ?_⟩
        have := k G2 H2 (.bl true) (s1.trans s2) r2 (by rw [q]; exact .bl _)
        exact this
      · refine ⟨_, some v', rfl, .inl ⟨_, Sum.inl _, .inr ⟨_, r2.subG _ _ ha⟩, rfl, q2.symm⟩, ?_⟩
        exact k G2 H2 (.bl false) (s1.trans s2) r2 (by rw [q1]; exact .bl _)
  · cases h3
theorem qe_inK {m n : M D} (hr : Room k X.A) (hi : QE X i m) (ho : QE X o n) (hm : behindInMarks .In o = false := by first | exact nomark _ | rfl | (with_unfolding_all rfl)) : QE X (.Compare i [.In] [o] pos) (eOp2 dInK m n) :=
  PE.imp (pe_cmp (pc_din (units1 hr) hi ho) hm) fun _ _ _ h => tDIn_of h
theorem qe_notInK {m n : M D} (hr : Room k X.A) (hi : QE X i m) (ho : QE X o n) (hm : behindInMarks .NotIn o = false := by first | exact nomark _ | rfl | (with_unfolding_all rfl)) : QE X (.Compare i [.NotIn] [o] pos) (eOp2 dNotInK m n) :=
  PE.imp (pe_cmp (pc_dnotin (units1 hr) hi ho) hm) fun _ _ _ h => tDNotIn_of h
theorem qt_inK {m n : M D} (hr : Room k X.A) (hi : QE X i m) (ho : QE X o n) (hm : behindInMarks .In o = false := by first | exact nomark _ | rfl | (with_unfolding_all rfl)) : QT X (.Compare i [.In] [o] pos) (cV (eOp2 dInK m n)) :=
  PT.imp (pt_cmp (pc_din (units1 hr) hi ho) hm) fun _ _ _ h => tDIn_of (tM_cV h)
theorem qt_notInK {m n : M D} (hr : Room k X.A) (hi : QE X i m) (ho : QE X o n) (hm : behindInMarks .NotIn o = false := by first | exact nomark _ | rfl | (with_unfolding_all rfl)) : QT X (.Compare i [.NotIn] [o] pos) (cV (eOp2 dNotInK m n)) :=
  PT.imp (pt_cmp (pc_dnotin (units1 hr) hi ho) hm) fun _ _ _ h => tDNotIn_of (tM_cV h)
theorem walk_dict {K : Fr} {G : Hp} {a : Addr} {o : Obj} {us : List (Key × V)} {ds : List (D × D)} (ha : G a = some (.frz o (.dK us))) (hv : DqKv K G us ds) : WalkD K (Itk a o us) G (keysOf ds) := by
  have hl : us.length = (keysOf ds).length := by rw [hv.length]; unfold keysOf; rw [List.length_map]
  refine ⟨fun i G' H s1 s2 hi => ⟨s2 _ _ (s1 _ _ ha), by omega⟩, fun i G' H s1 s2 hi => ⟨s2 _ _ (s1 _ _ ha), by omega⟩, fun i G' H v H' d s1 s2 hd hy => ?_⟩
  obtain ⟨rfl, k, w, e, rfl⟩ := hy
  exact ⟨G', Gr.refl s2, Dq_mono s1 (DqKv.key hv e hd)⟩
theorem qi_keysD {tg : Expr} {m : M D} (he : QE X e m) : QI X tg e (iKeysD m) := by
  refine PI.imp (pi_keys he) fun σ H Q h => ?_
  obtain ⟨R, G, ρ, ds, ρ', rp, e, k⟩ := h
  unfold iKeysD at e
  rw [Option.bind_eq_some_iff] at e
  obtain ⟨⟨x, ρ1⟩, h1, e⟩ := e
  cases x <;> try (cases e; done)
  cases e
  refine ⟨R, G, ρ, _, _, rp, h1, fun G1 H1 v1 s1 r1 d1 => ?_⟩
  cases d1 with
  | dic ha hv => exact ⟨_, _, rfl, .inl ⟨_, r1.subG _ _ ha, k G1 H1 _ s1 r1 (walk_dict ha hv)⟩⟩
end

/-! ### displays of dicts -/
def flat2 : List (V × V) → List V
  | [] => []
  | p :: r => p.1 :: p.2 :: flat2 r
/-- the pairs of a display: keys and values in a row -/
def tMP (K : Fr) (m : M (List D)) : St → Hp → (List (V × V) → Hp → Prop) → Prop := fun σ H Q => ∃ R G ρ ds ρ', Rep K R G H ρ σ ∧ m ρ = some (ds, ρ') ∧ ∀ G' H' ps, Same G G' → Rep K R G' H' ρ' σ → DqAll K G' (flat2 ps) ds → Q ps H'
def QP2 (X : Cx) (pos : Pos) (keys : List (Option Expr)) (values : List Expr) (m : M (List D)) : Prop := ∃ trs, PPs X pos keys values trs ∧ ∀ σ H Q, tMP X.K m σ H Q → tPairs trs σ H Q
theorem qp_nil {X : Cx} {pos : Pos} : QP2 X pos [] [] aNil := ⟨[], pps_nil, fun σ H Q h => by
  obtain ⟨R, G, ρ, d, ρ', rp, e, k⟩ := h
  cases e
  exact k G H [] (.refl _) rp .nil⟩
theorem qp_cons {X : Cx} {pos : Pos} {kx vx : Expr} {ks : List (Option Expr)} {vs : List Expr} {m n : M D} {r : M (List D)} (hk : QE X kx m) (hv : QE X vx n) (hr : QP2 X pos ks vs r) : QP2 X pos (some kx :: ks) (vx :: vs) (aCons m (aCons n r)) := by
  obtain ⟨trs, h1, h2⟩ := hr
  refine ⟨_, pps_cons hk hv h1, fun σ H Q h => ?_⟩
  obtain ⟨R, G, ρ, d, ρ', rp, e, k⟩ := h
  unfold aCons at e
  rw [Option.bind_eq_some_iff] at e
  obtain ⟨⟨x, ρ1⟩, e1, e⟩ := e
  rw [Option.map_eq_some_iff] at e
  obtain ⟨⟨ys, ρ2⟩, e2, e⟩ := e
  cases e
  rw [Option.bind_eq_some_iff] at e2
  obtain ⟨⟨y, ρ3⟩, e3, e2⟩ := e2
  rw [Option.map_eq_some_iff] at e2
  obtain ⟨⟨zs, ρ4⟩, e4, e2⟩ := e2
  cases e2
  refine ⟨R, G, ρ, x, ρ1, rp, e1, fun G1 H1 v1 s1 r1 d1 => ⟨R, G1, ρ1, y, ρ3, r1, e3, fun G2 H2 v2 s2 r2 d2 => ?_⟩⟩
  refine h2 σ H2 _ ⟨R, G2, ρ3, zs, _, r2, e4, fun G3 H3 ps s3 r3 d3 => ?_⟩
  exact k G3 H3 ((v1, v2) :: ps) ((s1.trans s2).trans s3) r3 (.cons (Dq_mono (s2.trans s3) d1) (.cons (Dq_mono s3 d2) d3))
/-- the pairs, their keys whole numbers, none twice -/
def pairs2 : List D → Option (List (Int × D))
  | [] => some []
  | .int k :: d :: r => (pairs2 r).bind fun t => if (t.all fun p => decide (p.1 ≠ k)) = true then some ((k, d) :: t) else none
  | _ => none
def kvD (t : List (Int × D)) : List (D × D) := t.map fun p => (.int p.1, p.2)
def kvU : List (Int × V) → List (Key × V) := fun t => t.map fun p => (Sum.inl p.1, p.2)
theorem pairs2_ok {K : Fr} {G : Hp} : ∀ (ps : List (V × V)) (ds : List D) (t : List (Int × D)), DqAll K G (flat2 ps) ds → pairs2 ds = some t → ∃ us : List (Int × V), ps = (kvU us).map (fun kv => (kV kv.1, kv.2)) ∧ us.map Prod.fst = t.map Prod.fst ∧ DqKv K G (kvU us) (kvD t) ∧ t.length = ps.length ∧ (t.map Prod.fst).Nodup
  | [], ds, t, h, e => by
    cases h
    cases e
    exact ⟨[], rfl, rfl, .nil, rfl, .nil⟩
  | (x, y) :: ps, ds, t, h, e => by
    cases h with
    | cons hx h =>
      cases h with
      | cons hy h =>
        cases hx <;> try (cases e; done)
        rename_i dy ds i
        have e' : ((pairs2 ds).bind fun t => if (t.all fun p => decide (p.1 ≠ i)) = true then some ((i, dy) :: t) else none) = some t := e
        rw [Option.bind_eq_some_iff] at e'
        obtain ⟨t1, e1, e'⟩ := e'
        split at e'
        · rename_i ha
          cases e'
          obtain ⟨us, a, b, c, d, nd⟩ := pairs2_ok ps ds t1 h e1
          refine ⟨(i, y) :: us, by rw [a]; rfl, by rw [List.map_cons, List.map_cons, b], .cons hy c, by rw [List.length_cons, List.length_cons, d], ?_⟩
          rw [List.map_cons, List.nodup_cons]
          refine ⟨fun hm => ?_, nd⟩
          rw [List.mem_map] at hm
          obtain ⟨q, hq, hq2⟩ := hm
          have := (List.all_eq_true.mp ha) q hq
          rw [decide_eq_true_eq] at this
          exact this hq2
        · cases e'
theorem mergeK_app : ∀ (more kvs : List (Key × V)), ((kvs ++ more).map Prod.fst).Nodup → mergeK kvs more = kvs ++ more
  | [], kvs, _ => by unfold mergeK; simp
  | p :: r, kvs, h => by
    have hp : putK kvs p.1 p.2 = kvs ++ [p] := by
      unfold putK
      rw [if_neg]
      intro q
      rw [List.any_eq_true] at q
      obtain ⟨z, hz, hq⟩ := q
      rw [decide_eq_true_eq] at hq
      rw [List.map_append, List.nodup_append] at h
      exact h.2.2 z.1 (List.mem_map_of_mem hz) p.1 (by simp) hq
    have := mergeK_app r (kvs ++ [p]) (by simpa using h)
    unfold mergeK at this ⊢
    rw [List.foldl_cons, hp, this]
    simp
theorem nodup_inl : ∀ (us : List (Int × V)), (us.map Prod.fst).Nodup → ((kvU us).map Prod.fst).Nodup
  | [], _ => .nil
  | p :: r, h => by
    rw [List.map_cons, List.nodup_cons] at h
    show (Sum.inl p.1 :: (kvU r).map Prod.fst).Nodup
    rw [List.nodup_cons]
    refine ⟨fun hm => h.1 ?_, nodup_inl r h.2⟩
    unfold kvU at hm
    rw [List.map_map, List.mem_map] at hm
    obtain ⟨z, hz, hq⟩ := hm
    have : z.1 = p.1 := Sum.inl.inj hq
    rw [← this]
    exact List.mem_map_of_mem hz
theorem mergeU {us : List (Int × V)} (h : (us.map Prod.fst).Nodup) : mergeK [] (kvU us) = kvU us := by
  rw [mergeK_app _ _ (by simpa using nodup_inl us h)]; rfl
/-- what stood new among others' becomes data -/
theorem Rep.give {K : Fr} {R G H : Hp} {ρ : Ro} {σ : St} {p : Addr} {ho ho' : HO} (r : Rep K (upd R p ho) G H ρ σ) (hR : R p = none) (nt : ¬ isT ho) : Rep K R (upd G p ho') (upd H p ho') ρ σ := by
  have gp : G p = none := (r.dis p ho upd_same).resolve_right nt
  have sg : Same G (upd G p ho') := fun b o q => by rw [upd_ne (ne_of_none q gp)]; exact q
  have off : ∀ {i : Nat} {c : Ow} {a : Addr}, ρ[i]? = some (.own c) → Ft H c σ[i]? a → a ≠ p := fun h f z => by
    have := (r.ftN h f).1
    rw [z, upd_same] at this; cases this
  refine ⟨r.len, fun b o q => ?_, fun b o q => ?_, fun b o q => ?_, fun i s h => ?_, fun i j c c' q h1 h2 h3 h4 => ?_⟩
  · rw [upd_ne (ne_of_none q hR)]
    exact r.subR b o (by rw [upd_ne (ne_of_none q hR)]; exact q)
  · by_cases z : b = p
    · subst z; rw [upd_same] at q ⊢; exact q
    · rw [upd_ne z] at q ⊢; exact r.subG b o q
  · rw [upd_ne (ne_of_none q hR)]
    exact r.dis b o (by rw [upd_ne (ne_of_none q hR)]; exact q)
  · have := r.slot i s h
    cases s with
    | un => trivial
    | dat d =>
      obtain ⟨v, e, hd⟩ := this
      exact ⟨v, e, Dq_mono sg hd⟩
    | scr ns =>
      obtain ⟨a, e, hd⟩ := this
      exact ⟨a, e, sg.seq hd⟩
    | ref t =>
      exact SlT_mono sg this
    | own c =>
      obtain ⟨q, hq, e', a1, a2, a3, a4⟩ := this
      have hn : q ≠ p := off h (.self e' a1)
      exact ⟨q, hq, e', by rw [upd_ne hn]; exact a1, by rw [upd_ne hn]; exact a2, by rw [upd_ne hn] at a3; exact a3, OwOk_mono sg (fun a m o w1 _ w3 w4 => by
        have ha := off h ⟨q, hq, e', a1, .inr m⟩
        rw [upd_ne ha] at w4
        rw [upd_ne ha, upd_ne ha]
        exact ⟨w1, w3, w4⟩) a4⟩
  · exact r.apart i j c c' q h1 h2 (h3.back (r.slot i _ h1) fun p' ho1 e w => by rw [upd_ne (off h1 (.self e w))]; exact w) (h4.back (r.slot j _ h2) fun p' ho1 e w => by rw [upd_ne (off h2 (.self e w))]; exact w)
theorem Rep.keep {K : Fr} {R G H : Hp} {ρ : Ro} {σ : St} {p : Addr} {ho : HO} (r : Rep K R G H ρ σ) (hp : H p = none) : Rep K (upd R p ho) G (upd H p ho) ρ σ := by
  have hR := r.subR.free hp
  have r1 := r.grow (Gr.junk (o := ho) r.subG hp)
  refine ⟨r1.len, fun b o q => ?_, r1.subG, fun b o q => ?_, fun i s h => ?_, r1.apart⟩
  · by_cases z : b = p
    · subst z; rw [upd_same] at q ⊢; exact q
    · rw [upd_ne z] at q ⊢; exact r.subR b o q
  · by_cases z : b = p
    · subst z
      cases g : G b with
      | none => exact .inl rfl
      | some w => have := r.subG b w g; rw [hp] at this; cases this
    · rw [upd_ne z] at q; exact r.dis b o q
  · have t1 := r1.slot i s h
    cases s with
    | un => trivial
    | dat d => exact t1
    | scr ns => exact t1
    | ref t => exact t1
    | own c =>
      obtain ⟨q, hq, e', a1, a2, a3, a4⟩ := r.slot i _ h
      have hn : q ≠ p := fun z => by rw [z, hp] at a1; cases a1
      exact ⟨q, hq, e', by rw [upd_ne hn]; exact a1, a2, by rw [upd_ne hn]; exact a3, OwOk_mono (.refl _) (fun a m o w1 _ w3 w4 => by
        have ha : a ≠ p := fun z => by rw [z, hp] at w1; cases w1
        rw [upd_ne ha, upd_ne ha]
        exact ⟨w1, w3, w4⟩) a4⟩
theorem Rep.rekeep {K : Fr} {R G H : Hp} {ρ : Ro} {σ : St} {p : Addr} {ho ho' : HO} (r : Rep K (upd R p ho) G H ρ σ) (nt : ¬ isT ho) : Rep K (upd R p ho') G (upd H p ho') ρ σ := by
  have gp : G p = none := (r.dis p ho upd_same).resolve_right nt
  have off : ∀ {i : Nat} {c : Ow} {a : Addr}, ρ[i]? = some (.own c) → Ft H c σ[i]? a → a ≠ p := fun h f z => by
    have := (r.ftN h f).1
    rw [z, upd_same] at this; cases this
  refine ⟨r.len, fun b o q => ?_, fun b o q => ?_, fun b o q => ?_, fun i s h => ?_, fun i j c c' q h1 h2 h3 h4 => ?_⟩
  · by_cases z : b = p
    · subst z; rw [upd_same] at q ⊢; exact q
    · rw [upd_ne z] at q ⊢; exact r.subR b o (by rw [upd_ne z]; exact q)
  · rw [upd_ne (ne_of_none q gp)]; exact r.subG b o q
  · by_cases z : b = p
    · subst z; exact .inl gp
    · rw [upd_ne z] at q; exact r.dis b o (by rw [upd_ne z]; exact q)
  · have := r.slot i s h
    cases s with
    | un => trivial
    | dat d => exact this
    | scr ns => exact this
    | ref t => exact this
    | own c =>
      obtain ⟨q, hq, e', a1, a2, a3, a4⟩ := this
      have hn : q ≠ p := off h (.self e' a1)
      exact ⟨q, hq, e', by rw [upd_ne hn]; exact a1, a2, by rw [upd_ne hn] at a3 ⊢; exact a3, OwOk_mono (.refl _) (fun a m o w1 _ w3 w4 => by
        have ha := off h ⟨q, hq, e', a1, .inr m⟩
        rw [upd_ne ha] at w4
        rw [upd_ne ha, upd_ne ha]
        exact ⟨w1, w3, w4⟩) a4⟩
  · exact r.apart i j c c' q h1 h2 (h3.back (r.slot i _ h1) fun p' ho1 e w => by rw [upd_ne (off h1 (.self e w))]; exact w) (h4.back (r.slot j _ h2) fun p' ho1 e w => by rw [upd_ne (off h2 (.self e w))]; exact w)
/-- what was others' is forgotten -/
theorem Rep.drop {K : Fr} {R G H : Hp} {ρ : Ro} {σ : St} {p : Addr} {ho : HO} (r : Rep K (upd R p ho) G H ρ σ) (hR : R p = none) : Rep K R G H ρ σ := by
  have sub : ∀ a o, R a = some o → upd R p ho a = some o := fun a o q => by rw [upd_ne (ne_of_none q hR)]; exact q
  have off : ∀ a, upd R p ho a = none → R a = none := fun a q => by
    cases z : R a with
    | none => rfl
    | some o => rw [sub a o z] at q; cases q
  refine ⟨r.len, fun b o q => r.subR b o (sub b o q), r.subG, fun b o q => r.dis b o (sub b o q), fun i s h => ?_, r.apart⟩
  have := r.slot i s h
  cases s with
  | un => trivial
  | dat d => exact this
  | scr ns => exact this
  | ref t => exact this
  | own c =>
    obtain ⟨q, hq, e', a1, a2, a3, a4⟩ := this
    exact ⟨q, hq, e', a1, a2, off q a3, OwOk_mono (.refl _) (fun a _ o w1 _ w3 w4 => ⟨w1, w3, off a w4⟩) a4⟩
theorem nt_dK {us : List (Key × V)} : ¬ isT (.dK us) := fun ⟨xs, z⟩ => by cases z
abbrev KvR (K : Fr) (G : Hp) : Int × D → Key × V → Prop := fun p q => q.1 = Sum.inl p.1 ∧ Dq K G q.2 p.2
theorem kv_paired {K : Fr} {G : Hp} : ∀ {us : List (Key × V)} {t : List (Int × D)}, DqKv K G us (kvD t) → Paired (KvR K G) t us
  | us, [], h => by cases h; exact .nil
  | us, (i, d) :: t, h => by
    cases h with
    | cons hd ht => exact .cons ⟨rfl, hd⟩ (kv_paired ht)
theorem paired_kv {K : Fr} {G : Hp} : ∀ {us : List (Key × V)} {t : List (Int × D)}, Paired (KvR K G) t us → DqKv K G us (kvD t)
  | us, [], h => by cases h; exact .nil
  | (k, v) :: us, (i, d) :: t, .cons h r => by
    obtain ⟨h1, h2⟩ := h
    cases h1
    exact .cons h2 (paired_kv r)
def mkDict (ds : List D) : Option D := (pairs2 ds).bind fun t => if t.length ≤ 15 then some (.dict (kvD t)) else none
def oDict (m : M (List D)) : M Ow := fun ρ => (m ρ).bind fun p => (pairs2 p.1).bind fun t => if t.length ≤ 15 then some (.dk t, p.2) else none
section
variable {X : Cx} {a e o i : Expr} {es : List Expr} {pos p p2 p3 : Pos} {k : Nat} {x : Str}
theorem qe_dict {keys : List (Option Expr)} {values : List Expr} {m : M (List D)} (h : QP2 X pos keys values m) (hall : keys.all (·.isSome) = true := by rfl) (hl : keys.length = values.length := by rfl) (h0 : keys ≠ [] := by simp) (h15 : keys.length ≤ 15 := by decide) : QE X (.Dict keys values pos) (eApp mkDict m) := by
  obtain ⟨trs, h1, h2⟩ := h
  refine ⟨fun pins s σ H Q I q => ?_⟩
  obtain ⟨R, G, ρ, d, ρ', rp, e, k⟩ := q
  unfold eApp at e
  rw [Option.bind_eq_some_iff] at e
  obtain ⟨⟨ds, ρ1⟩, e1, e⟩ := e
  rw [Option.map_eq_some_iff] at e
  obtain ⟨z, e2, e⟩ := e
  cases e
  unfold mkDict at e2
  rw [Option.bind_eq_some_iff] at e2
  obtain ⟨t, e3, e2⟩ := e2
  split at e2
  · rename_i ht
    cases e2
    refine thn ((pe_disp h1 hall hl h0 h15).run pins s σ H (fun v H' => ∃ p H2 us, v = .ref p ∧ H' = upd H2 p (.dK us) ∧ ∀ ob, Q (.ref p) (upd H2 p (.frz ob (.dK us)))) I fun p hp => h2 σ _ _ ⟨upd R p (.dK []), G, ρ, ds, ρ1, rp.keep hp, e1, fun G1 H1 ps s1 r1 d1 => ?_⟩) fun u s1 ⟨v, H', I1, rv, p, H2, us, ev, eH, q⟩ => ?_
    · obtain ⟨us, a1, a2, a3, a4, a5⟩ := pairs2_ok ps ds t d1 e3
      have hn : (us.map Prod.fst).Nodup := by rw [a2]; exact a5
      refine ⟨r1.subR _ _ upd_same, kvU us, a1, ?_, p, H1, _, rfl, rfl, fun ob => ?_⟩
      · have : (kvU us).length = (kvD t).length := a3.length
        unfold kvD at this
        rw [List.length_map] at this
        omega
      · rw [mergeU hn]
        have rg := Rep.give (ho' := .frz ob (.dK (kvU us))) r1 (rp.subR.free hp) nt_dK
        have gp : G1 p = none := (r1.dis p _ upd_same).resolve_right nt_dK
        have sg : Same G1 (upd G1 p (.frz ob (.dK (kvU us)))) := fun b w q => by rw [upd_ne (ne_of_none q gp)]; exact q
        exact k _ _ _ (s1.trans sg) rg (.dic upd_same (DqKv_mono sg a3))
    · subst ev eH
      obtain ⟨od, I2⟩ := I1.lock upd_same trivial
      rw [upd_upd] at I2
      exact ⟨.ref p, _, I2, rv, q od⟩
  · cases e2
theorem qo_dict {keys : List (Option Expr)} {values : List Expr} {m : M (List D)} (h : QP2 X pos keys values m) (hall : keys.all (·.isSome) = true := by rfl) (hl : keys.length = values.length := by rfl) (h0 : keys ≠ [] := by simp) (h15 : keys.length ≤ 15 := by decide) : QO X (.Dict keys values pos) (oDict m) := by
  obtain ⟨trs, h1, h2⟩ := h
  refine PE.imp (pe_disp h1 hall hl h0 h15) fun σ H Q q => ?_
  obtain ⟨R, G, ρ, d, ρ', rp, e, k⟩ := q
  unfold oDict at e
  rw [Option.bind_eq_some_iff] at e
  obtain ⟨⟨ds, ρ1⟩, e1, e⟩ := e
  rw [Option.bind_eq_some_iff] at e
  obtain ⟨t, e3, e2⟩ := e
  split at e2
  · rename_i ht
    cases e2
    intro p hp
    refine h2 σ _ _ ⟨upd R p (.dK []), G, ρ, ds, ρ1, rp.keep hp, e1, fun G1 H1 ps s1 r1 d1 => ?_⟩
    obtain ⟨us, a1, a2, a3, a4, a5⟩ := pairs2_ok ps ds t d1 e3
    have hn : (us.map Prod.fst).Nodup := by rw [a2]; exact a5
    refine ⟨r1.subR _ _ upd_same, kvU us, a1, ?_, ?_⟩
    · have : (kvU us).length = (kvD t).length := a3.length
      unfold kvD at this
      rw [List.length_map] at this
      omega
    · rw [mergeU hn]
      exact k G1 _ p s1 (Rep.pushO (Rep.rekeep r1 nt_dK) (kv_paired a3) (rp.subR.free hp))
  · cases e2
end

/-! ### own dicts -/
def ownK (ρ : Ro) (i : Nat) : Option (List (Int × D)) := match ρ[i]? with
  | some (.own (.dk t)) => some t
  | _ => none
theorem ownK_some {ρ : Ro} {i : Nat} {t : List (Int × D)} (h : ownK ρ i = some t) : ρ[i]? = some (.own (.dk t)) := by
  unfold ownK at h
  split at h
  · cases h; assumption
  · cases h
theorem Rep.ownKAt {K : Fr} {R G H : Hp} {ρ : Ro} {σ : St} {i : Nat} {t : List (Int × D)} (r : Rep K R G H ρ σ) (h : ρ[i]? = some (.own (.dk t))) : ∃ p us, σ[i]? = some (some (.ref p)) ∧ H p = some (.dK us) ∧ Paired (KvR K G) t us := by
  obtain ⟨p, ho, e, hp, gp, rp, x⟩ := r.slot i _ h
  cases ho <;> try exact x.elim
  exact ⟨p, _, e, hp, x⟩
def getK (t : List (Int × D)) (k : Int) : Option D := getD (kvD t) k
def putI (t : List (Int × D)) (k : Int) (d : D) : List (Int × D) := if (t.any fun p => decide (p.1 = k)) = true then t.map (fun p => if p.1 = k then (p.1, d) else p) else t ++ [(k, d)]
theorem put_paired {K : Fr} {G : Hp} {k : Int} {v : V} {d : D} (hd : Dq K G v d) {t : List (Int × D)} {us : List (Key × V)} (h : Paired (KvR K G) t us) : Paired (KvR K G) (putI t k d) (putK us (Sum.inl k) v) := by
  have ha : ∀ {t : List (Int × D)} {us : List (Key × V)}, Paired (KvR K G) t us → (t.any fun p => decide (p.1 = k)) = (us.any fun q => decide (q.1 = Sum.inl k)) := by
    intro t us h
    induction h with
    | nil => rfl
    | cons h _ ih =>
      rw [List.any_cons, List.any_cons, ih, h.1]
      congr 1
      simp
  have hm : ∀ {t : List (Int × D)} {us : List (Key × V)}, Paired (KvR K G) t us → Paired (KvR K G) (t.map (fun p => if p.1 = k then (p.1, d) else p)) (us.map (fun kv => if kv.1 = Sum.inl k then (kv.1, v) else kv)) := by
    intro t us h
    induction h with
    | nil => exact .nil
    | @cons a b as bs h _ ih =>
      rw [List.map_cons, List.map_cons]
      refine .cons ?_ ih
      obtain ⟨b1, b2⟩ := b
      obtain ⟨h1, h2⟩ := h
      simp only at h1
      subst h1
      by_cases q : a.1 = k
      · rw [if_pos q, if_pos (by rw [q])]; exact ⟨rfl, hd⟩
      · rw [if_neg q, if_neg (fun z => q (Sum.inl.inj z))]; exact ⟨rfl, h2⟩
  have hp : ∀ {t : List (Int × D)} {us : List (Key × V)}, Paired (KvR K G) t us → Paired (KvR K G) (t ++ [(k, d)]) (us ++ [(Sum.inl k, v)]) := by
    intro t us h
    induction h with
    | nil => exact .cons ⟨rfl, hd⟩ .nil
    | cons h _ ih => exact .cons h ih
  unfold putI putK
  rw [ha h]
  by_cases q : (us.any fun q => decide (q.1 = Sum.inl k)) = true
  · rw [if_pos q, if_pos q]; exact hm h
  · rw [if_neg q, if_neg q]; exact hp h
def eNotInOK (i : Nat) (a : M D) : M D := fun ρ => (a ρ).bind fun p => (ownK p.2 i).bind fun t => match p.1 with
  | .int k => some (.bool (!(getK t k).isSome), p.2)
  | _ => none
def eListOK (i : Nat) : M D := fun ρ => (ownK ρ i).map fun t => (.list (t.map fun p => .int p.1), ρ)
def sPutK (i : Nat) (a b : M D) : MS := fun ρ => (b ρ).bind fun p => (ownK p.2 i).bind fun _ => (a p.2).bind fun q => (ownK q.2 i).bind fun t => match q.1 with
  | .int k => if t.length < 1000000 then some (.nx, q.2.set i (.own (.dk (putI t k p.1)))) else none
  | _ => none
section
variable {X : Cx} {a b e : Expr} {pos p p2 p3 : Pos} {k : Nat} {x : Str}
theorem tDNotInO_of {i : Nat} {m : M D} {K : Fr} {σ : St} {H : Hp} {Q : VK} (h : tM K (eNotInOK i m) σ H Q) : tDNotIn (tM K m) (tVar i) σ H Q := by
  obtain ⟨R, G, ρ, d, ρ', rp, e, k⟩ := h
  unfold eNotInOK at e
  rw [Option.bind_eq_some_iff] at e
  obtain ⟨⟨y, ρ1⟩, h1, e⟩ := e
  rw [Option.bind_eq_some_iff] at e
  obtain ⟨t, h2, e⟩ := e
  cases y <;> try (cases e; done)
  rename_i j
  cases e
  refine ⟨R, G, ρ, .int j, _, rp, h1, fun G1 H1 v1 s1 r1 d1 => ?_⟩
  obtain ⟨q, us, eq, hq, pr⟩ := r1.ownKAt (ownK_some h2)
  cases d1
  refine ⟨.ref q, eq, ?_⟩
  rcases DqKv.val (k := j) (paired_kv pr) with ⟨q1, q2⟩ | ⟨d', v', q1, q2, q3⟩
  · exact ⟨q, none, rfl, .inl ⟨_, Sum.inl _, .inl hq, rfl, q2.symm⟩, k G1 H1 (.bl true) s1 r1 (by unfold getK; rw [q1]; exact .bl _)⟩
  · exact ⟨q, some v', rfl, .inl ⟨_, Sum.inl _, .inl hq, rfl, q2.symm⟩, k G1 H1 (.bl false) s1 r1 (by unfold getK; rw [q1]; exact .bl _)⟩
theorem qe_notInOK (i : Nat) {m : M D} (hr : Room k X.A) (ha : QE X a m) (hN : X.N[i]? = some x := by rfl) (hv : Vis X.env.scope x := by first | exact Or.inl rfl | exact Or.inr (Or.inl rfl) | exact Or.inr (Or.inr rfl)) (hd : (x == ("__debug__" : Str)) = false := by decide) (hcd : (x == ("__classdict__" : Str)) = false := by decide)
    (hm : behindInMarks .NotIn (.Name x p) = false := by first | exact nomark _ | rfl | (with_unfolding_all rfl)) : QE X (.Compare a [.NotIn] [.Name x p] pos) (eNotInOK i m) :=
  PE.imp (pe_cmp (pc_dnotin (units1 hr) ha (pe_var hN hv hd hcd)) hm) fun _ _ _ h => tDNotInO_of h
theorem qt_notInOK (i : Nat) {m : M D} (hr : Room k X.A) (ha : QE X a m) (hN : X.N[i]? = some x := by rfl) (hv : Vis X.env.scope x := by first | exact Or.inl rfl | exact Or.inr (Or.inl rfl) | exact Or.inr (Or.inr rfl)) (hd : (x == ("__debug__" : Str)) = false := by decide) (hcd : (x == ("__classdict__" : Str)) = false := by decide)
    (hm : behindInMarks .NotIn (.Name x p) = false := by first | exact nomark _ | rfl | (with_unfolding_all rfl)) : QT X (.Compare a [.NotIn] [.Name x p] pos) (cV (eNotInOK i m)) :=
  PT.imp (pt_cmp (pc_dnotin (units1 hr) ha (pe_var hN hv hd hcd)) hm) fun _ _ _ h => tDNotInO_of (tM_cV h)
theorem qs_putK (i : Nat) {m n : M D} (hr : Room k X.A) (ha : QE X a m) (hb : QE X b n) (hN : X.N[i]? = some x := by rfl) (hv : Vis X.env.scope x := by first | exact Or.inl rfl | exact Or.inr (Or.inl rfl) | exact Or.inr (Or.inr rfl)) (hd : (x == ("__debug__" : Str)) = false := by decide) (hcd : (x == ("__classdict__" : Str)) = false := by decide)
    (hs : swapsWith b (some (.Subscript (.Name x p) a p2)) pos.line X.env = pure false := by rfl) : QS X [] (.Assign [.Subscript (.Name x p) a p2] b pos) (sPutK i m n) := by
  refine PS.imp (ps_dput (units1 hr) (pe_var hN hv hd hcd) ha hb hs) fun E σ H h => ?_
  obtain ⟨R, G, ρ, f, ρ', rp, e, k⟩ := h
  unfold sPutK at e
  rw [Option.bind_eq_some_iff] at e
  obtain ⟨⟨y, ρ1⟩, h1, e⟩ := e
  rw [Option.bind_eq_some_iff] at e
  obtain ⟨t0, h0, e⟩ := e
  rw [Option.bind_eq_some_iff] at e
  obtain ⟨⟨z, ρ2⟩, h2, e⟩ := e
  rw [Option.bind_eq_some_iff] at e
  obtain ⟨t, h3, e⟩ := e
  cases z <;> try (cases e; done)
  rename_i j
  simp only at e
  split at e
  · rename_i hl
    cases e
    refine ⟨R, G, ρ, y, ρ1, rp, h1, fun G1 H1 v1 s1 r1 d1 => ?_⟩
    obtain ⟨q, us0, eq0, hq0, _⟩ := r1.ownKAt (ownK_some h0)
    refine ⟨.ref q, eq0, R, G1, ρ1, .int j, ρ2, r1, h2, fun G2 H2 v2 s2 r2 d2 => ?_⟩
    obtain ⟨q', us, eq, hq, dv⟩ := r2.ownKAt (ownK_some h3)
    rw [eq0] at eq
    cases eq
    cases d2
    refine ⟨_, _, rfl, .inl ⟨us, Sum.inl j, hq, rfl, ?_, rfl⟩, k G2 _ σ (s1.trans s2) (r2.write (ownK_some h3) eq0 (c' := .dk (putI t j y)) (ho := .dK (putK us (Sum.inl j) v1)) (put_paired (Dq_mono s2 d1) dv)) (.refl _ _)⟩
    have := Paired.length dv
    rw [← this, sizeLine_eq]
    omega
  · cases e
theorem qe_listOK (i : Nat) (hl : X.mg "list" = none) (hN : X.N[i]? = some x := by rfl) (hv : Vis X.env.scope x := by first | exact Or.inl rfl | exact Or.inr (Or.inl rfl) | exact Or.inr (Or.inr rfl)) (hd : (x == ("__debug__" : Str)) = false := by decide) (hcd : (x == ("__classdict__" : Str)) = false := by decide) (hc : X.calm = true := by rfl)
    (hg : Gl X "list" := by rfl) (hs : starEach [.Name x p] X.env = (false, eval (.Name x p) X.env) :: starEach [] X.env := by rfl) (hpl : (backTo pos (starEach [] X.env)).any (·.1) = false := by rfl) : QE X (.Call (.Name "list" p2) [.Name x p] [] pos) (eListOK i) := by
  refine PE.imp (pe_callTy (call_listD hc) hg hl (by decide +kernel) (pa_cons (pe_var hN hv hd hcd) pa_nil hs) (by decide) (by decide) hs hpl) fun σ H Q h => ?_
  obtain ⟨R, G, ρ, d, ρ', rp, e, k⟩ := h
  unfold eListOK at e
  rw [Option.map_eq_some_iff] at e
  obtain ⟨t, h1, e⟩ := e
  cases e
  obtain ⟨q, us, eq, hq, dv⟩ := rp.ownKAt (ownK_some h1)
  refine ⟨.ref q, eq, q, us, rfl, .inl hq, fun p hp => ?_⟩
  have g := Gr.new (o := .lst (us.map fun kv => kV kv.1)) rp.subG hp
  refine k _ _ _ g.gg (rp.grow g) (.lst upd_same (DqAll_mono g.gg ?_))
  have := (paired_kv dv).keys
  unfold keysOf kvD at this
  rw [List.map_map] at this
  exact this
end
end QL
set_option Elab.async false
set_option linter.all false
set_option maxRecDepth 100000
set_option maxHeartbeats 1000000
namespace QL
open PySem PySem.Spec PyProof.Rows L2

/-! ### slices -/
def cutD (xs : List D) (lo hi : Option Int) : List D := (xs.drop (HT.sIx xs.length 0 lo)).take (HT.sIx xs.length xs.length hi - HT.sIx xs.length 0 lo)
theorem cut_rel {K : Fr} {G : Hp} {vs : List V} {ds : List D} (h : DqAll K G vs ds) (lo hi : Option Int) : DqAll K G (cutV vs lo hi) (cutD ds lo hi) := by
  unfold cutV cutD
  rw [h.length]
  exact DqAll.take _ (DqAll.drop _ h)
def dSlice : D → Option Int → Option Int → Option D
  | .tuple ds, lo, hi => some (.tuple (cutD ds lo hi))
  | .list ds, lo, hi => some (.list (cutD ds lo hi))
  | _, _, _ => none
def tMPo (K : Fr) (m : M (Option Int)) : TO := fun σ H Q => ∃ R G ρ o ρ', Rep K R G H ρ σ ∧ m ρ = some (o, ρ') ∧ ∀ G' H', Same G G' → Rep K R G' H' ρ' σ → Q o H'
def QPo (X : Cx) (e : Option Expr) (m : M (Option Int)) : Prop := ∃ t, PO X e t ∧ ∀ σ H Q, tMPo X.K m σ H Q → t σ H Q
def pNone : M (Option Int) := fun ρ => some (none, ρ)
def pSome (a : M D) : M (Option Int) := fun ρ => (a ρ).bind fun p => match p.1 with
  | .int i => some (some i, p.2)
  | _ => none
def eSlice (a : M D) (lo hi : M (Option Int)) : M D := fun ρ => (a ρ).bind fun p => (lo p.2).bind fun q => (hi q.2).bind fun r => (dSlice p.1 q.1 r.1).map fun z => (z, r.2)
theorem whole_cut {xs : List D} {lo hi : Option Int} (h : HT.sIx xs.length 0 lo = 0 ∧ HT.sIx xs.length xs.length hi = xs.length) : cutD xs lo hi = xs := by
  unfold cutD
  rw [h.1, h.2]
  simp
section
variable {X : Cx} {e a : Expr} {es : List Expr} {lo hi : Option Expr} {pos p p2 p3 : Pos} {k : Nat} {x : Str}
theorem qpo_none : QPo X none pNone := ⟨_, po_none, fun σ H Q h => by
  obtain ⟨R, G, ρ, o, ρ', rp, e, k⟩ := h
  cases e
  exact k G H (.refl _) rp⟩
theorem qpo_some {m : M D} (h : QE X e m) : QPo X (some e) (pSome m) := ⟨_, po_some h, fun σ H Q h => by
  obtain ⟨R, G, ρ, o, ρ', rp, e, k⟩ := h
  unfold pSome at e
  rw [Option.bind_eq_some_iff] at e
  obtain ⟨⟨y, ρ1⟩, h1, e⟩ := e
  cases y <;> try (cases e; done)
  cases e
  refine ⟨R, G, ρ, _, _, rp, h1, fun G1 H1 v1 s1 r1 d1 => ?_⟩
  cases d1
  exact ⟨_, rfl, k G1 H1 s1 r1⟩⟩
theorem qe_slice {m : M D} {l h : M (Option Int)} (he : QE X e m) (hl : QPo X lo l) (hh : QPo X hi h) : QE X (.Subscript e (.Slice lo hi none p2) pos) (eSlice m l h) := by
  obtain ⟨tl, hl, il⟩ := hl
  obtain ⟨th, hh, ih⟩ := hh
  refine PE.imp (pe_slice (SlR.or sl_tupA sl_list) he hl hh) fun σ H Q h => ?_
  obtain ⟨R, G, ρ, d, ρ', rp, e, k⟩ := h
  unfold eSlice at e
  rw [Option.bind_eq_some_iff] at e
  obtain ⟨⟨y, ρ1⟩, h1, e⟩ := e
  rw [Option.bind_eq_some_iff] at e
  obtain ⟨⟨o1, ρ2⟩, h2, e⟩ := e
  rw [Option.bind_eq_some_iff] at e
  obtain ⟨⟨o2, ρ3⟩, h3, e⟩ := e
  rw [Option.map_eq_some_iff] at e
  obtain ⟨z, h4, e⟩ := e
  cases e
  refine ⟨R, G, ρ, y, ρ1, rp, h1, fun G1 H1 v1 s1 r1 d1 => il σ H1 _ ⟨R, G1, ρ1, o1, ρ2, r1, h2, fun G2 H2 s2 r2 => ih σ H2 _ ⟨R, G2, ρ2, o2, _, r2, h3, fun G3 H3 s3 r3 => ?_⟩⟩⟩
  have d1' := Dq_mono (s2.trans s3) d1
  cases y <;> try (cases h4; done)
  · cases h4
    rename_i ds
    cases d1' with
    | lst ha hs =>
      rename_i a0 xs0
      refine .inr ⟨_, _, rfl, SqL.of (r3.subG _ _ ha), fun p hp => ?_⟩
      have g := Gr.new (o := .lst (cutV xs0 o1 o2)) r3.subG hp
      exact k _ _ _ (((s1.trans s2).trans s3).trans g.gg) (r3.grow g) (.lst upd_same (DqAll_mono g.gg (cut_rel hs o1 o2)))
  · cases h4
    rename_i ds
    cases id d1' with
    | tup ha hs =>
      rename_i a0 xs0
      refine .inl ⟨_, _, rfl, SqT_mono r3.subG ha, fun hw => ?_, fun _ p hp => ?_⟩
      · rw [hs.length] at hw
        exact k _ _ _ ((s1.trans s2).trans s3) r3 (by rw [whole_cut hw]; exact d1')
      · have g := Gr.new (o := .tup (cutV xs0 o1 o2)) r3.subG hp
        exact k _ _ _ (((s1.trans s2).trans s3).trans g.gg) (r3.grow g) (.tup (SqT.of upd_same) (DqAll_mono g.gg (cut_rel hs o1 o2)))

/-! ### list(range(..)) -/
theorem rgV_rel {K : Fr} {G : Hp} (a b : Int) : DqAll K G (rgV a b) (intsD a (b - a).toNat) := by
  have : ∀ l : List Nat, DqAll K G (l.map fun (i : Nat) => V.int (a + i)) (l.map fun (i : Nat) => PyData.int (a + i)) := by
    intro l
    induction l with
    | nil => exact .nil
    | cons a l ih => exact .cons (.int _) ih
  exact this _
def rgB (a b : Int) : Bool := decide (a.natAbs < 2 ^ 62 ∧ b.natAbs < 2 ^ 62 ∧ (b - a).toNat ≤ 2 ^ 24)
theorem rgB_ok {a b : Int} (h : rgB a b = true) : RgOk a b := by
  unfold rgB at h
  have := of_decide_eq_true h
  exact ⟨by omega, by omega, by omega, by omega, this.2.2⟩
def rgBnd : List D → Option (Int × Int)
  | [.int b] => if rgB 0 b then some (0, b) else none
  | [.int a, .int b] => if rgB a b then some (a, b) else none
  | _ => none
def dListRange (ds : List D) : Option D := (rgBnd ds).map fun p => .list (intsD p.1 (p.2 - p.1).toNat)
def dTupRange (ds : List D) : Option D := (rgBnd ds).map fun p => .tuple (intsD p.1 (p.2 - p.1).toNat)
def oListRange (m : M (List D)) : M Ow := fun ρ => (m ρ).bind fun p => (rgBnd p.1).map fun q => (.lst (intsD q.1 (q.2 - q.1).toNat), p.2)
def tRgM (K : Fr) (m : M (List D)) : St → Hp → (Int → Int → Hp → Prop) → Prop := fun σ H Q => ∃ R G ρ ds ρ' a b, Rep K R G H ρ σ ∧ m ρ = some (ds, ρ') ∧ rgBnd ds = some (a, b) ∧ ∀ G' H', Same G G' → Rep K R G' H' ρ' σ → Q a b H'
def QRg (X : Cx) (e : Expr) (m : M (List D)) : Prop := ∃ t, PRg X e t ∧ ∀ σ H Q, tRgM X.K m σ H Q → t σ H Q
theorem rgBnd_ok {ds : List D} {a b : Int} (h : rgBnd ds = some (a, b)) : RgOk a b ∧ ((a = 0 ∧ ds = [.int b]) ∨ ds = [.int a, .int b]) := by
  unfold rgBnd at h
  split at h
  · split at h
    · rename_i q
      cases h
      exact ⟨rgB_ok q, .inl ⟨rfl, rfl⟩⟩
    · cases h
  · split at h
    · rename_i q
      cases h
      exact ⟨rgB_ok q, .inr rfl⟩
    · cases h
  · cases h
theorem aCons_some {m : M D} {r : M (List D)} {ρ ρ' : Ro} {ds : List D} (h : aCons m r ρ = some (ds, ρ')) : ∃ x ρ1 ys, m ρ = some (x, ρ1) ∧ r ρ1 = some (ys, ρ') ∧ ds = x :: ys := by
  unfold aCons at h
  rw [Option.bind_eq_some_iff] at h
  obtain ⟨⟨x, ρ1⟩, h1, h⟩ := h
  rw [Option.map_eq_some_iff] at h
  obtain ⟨⟨ys, ρ2⟩, h2, h⟩ := h
  cases h
  exact ⟨x, ρ1, ys, h1, h2, rfl⟩
theorem qrg_1 {m : M D} (hm : X.mg "range" = none) (ha : QE X a m) (hg : Gl X "range" := by rfl) (na : starEach [a] X.env = (false, eval a X.env) :: starEach [] X.env := by rfl) : QRg X (.Call (.Name "range" p) [a] [] pos) (aCons m aNil) :=
  ⟨_, prg_1 hg hm ha na, fun σ H Q h => by
    obtain ⟨R, G, ρ, ds, ρ', a, b, rp, e, hb, k⟩ := h
    obtain ⟨x, ρ1, ys, h1, h2, e⟩ := aCons_some e
    cases h2
    subst e
    obtain ⟨_, ⟨rfl, q⟩ | q⟩ := rgBnd_ok hb
    · cases q
      refine ⟨R, G, ρ, _, _, rp, h1, fun G1 H1 v1 s1 r1 d1 => ?_⟩
      cases d1
      exact ⟨_, rfl, k G1 H1 s1 r1⟩
    · cases q⟩
theorem qrg_2 {m n : M D} {b : Expr} (hm : X.mg "range" = none) (ha : QE X a m) (hb : QE X b n) (hg : Gl X "range" := by rfl) (na : starEach [a, b] X.env = (false, eval a X.env) :: starEach [b] X.env := by rfl)
    (nb : starEach [b] X.env = (false, eval b X.env) :: starEach [] X.env := by rfl) (hp : (backTo pos (starEach [b] X.env)).any (·.1) = false := by rfl) : QRg X (.Call (.Name "range" p) [a, b] [] pos) (aCons m (aCons n aNil)) :=
  ⟨_, prg_2 hg hm ha hb na nb hp, fun σ H Q h => by
    obtain ⟨R, G, ρ, ds, ρ', a, b, rp, e, hb, k⟩ := h
    obtain ⟨x, ρ1, ys, h1, h2, e⟩ := aCons_some e
    obtain ⟨y, ρ2, zs, h3, h4, e2⟩ := aCons_some h2
    cases h4
    subst e2 e
    obtain ⟨_, ⟨rfl, q⟩ | q⟩ := rgBnd_ok hb
    · cases q
    · cases q
      refine ⟨R, G, ρ, _, _, rp, h1, fun G1 H1 v1 s1 r1 d1 => ⟨R, G1, ρ1, _, _, r1, h3, fun G2 H2 v2 s2 r2 d2 => ?_⟩⟩
      cases d1
      cases d2
      exact ⟨_, _, rfl, rfl, k G2 H2 (s1.trans s2) r2⟩⟩
theorem eApp_some {f : List D → Option D} {m : M (List D)} {ρ ρ' : Ro} {d : D} (h : eApp f m ρ = some (d, ρ')) : ∃ ds, m ρ = some (ds, ρ') ∧ f ds = some d := by
  unfold eApp at h
  rw [Option.bind_eq_some_iff] at h
  obtain ⟨⟨x, ρ1⟩, h1, h⟩ := h
  rw [Option.map_eq_some_iff] at h
  obtain ⟨xs, h2, h⟩ := h
  cases h
  exact ⟨x, h1, h2⟩
theorem qe_listRange {m : M (List D)} (hl : X.mg "list" = none) (he : QRg X e m) (hc : X.calm = true := by rfl) (hg : Gl X "list" := by rfl) (na : starEach [e] X.env = (false, eval e X.env) :: starEach [] X.env := by rfl) : QE X (.Call (.Name "list" p) [e] [] pos) (eApp dListRange m) := by
  obtain ⟨t, he, ht⟩ := he
  refine PE.imp (pe_listRg hc hg hl he na) fun σ H Q h => ht σ H _ ?_
  obtain ⟨R, G, ρ, d, ρ', rp, e, k⟩ := h
  obtain ⟨ds, h1, h2⟩ := eApp_some e
  unfold dListRange at h2
  rw [Option.map_eq_some_iff] at h2
  obtain ⟨⟨a, b⟩, hb, h2⟩ := h2
  cases h2
  refine ⟨R, G, ρ, ds, _, a, b, rp, h1, hb, fun G1 H1 s1 r1 => ⟨(rgBnd_ok hb).1, fun q hq => ?_⟩⟩
  have g := Gr.new (o := .lst (rgV a b)) r1.subG hq
  exact k _ _ _ (s1.trans g.gg) (r1.grow g) (.lst upd_same (rgV_rel a b))
theorem qe_tupRange {m : M (List D)} (hl : X.mg "tuple" = none) (he : QRg X e m) (hc : X.calm = true := by rfl) (hg : Gl X "tuple" := by rfl) (na : starEach [e] X.env = (false, eval e X.env) :: starEach [] X.env := by rfl) : QE X (.Call (.Name "tuple" p) [e] [] pos) (eApp dTupRange m) := by
  obtain ⟨t, he, ht⟩ := he
  refine PE.imp (pe_tupRg hc hg hl he na) fun σ H Q h => ht σ H _ ?_
  obtain ⟨R, G, ρ, d, ρ', rp, e, k⟩ := h
  obtain ⟨ds, h1, h2⟩ := eApp_some e
  unfold dTupRange at h2
  rw [Option.map_eq_some_iff] at h2
  obtain ⟨⟨a, b⟩, hb, h2⟩ := h2
  cases h2
  refine ⟨R, G, ρ, ds, _, a, b, rp, h1, hb, fun G1 H1 s1 r1 => ⟨(rgBnd_ok hb).1, fun q hq => ?_⟩⟩
  have g := Gr.new (o := .tup (rgV a b)) r1.subG hq
  exact k _ _ _ (s1.trans g.gg) (r1.grow g) (.tup (SqT.of upd_same) (rgV_rel a b))
theorem qo_listRange {m : M (List D)} (hl : X.mg "list" = none) (he : QRg X e m) (hc : X.calm = true := by rfl) (hg : Gl X "list" := by rfl) (na : starEach [e] X.env = (false, eval e X.env) :: starEach [] X.env := by rfl) : QO X (.Call (.Name "list" p) [e] [] pos) (oListRange m) := by
  obtain ⟨t, he, ht⟩ := he
  refine PE.imp (pe_listRg hc hg hl he na) fun σ H Q h => ht σ H _ ?_
  obtain ⟨R, G, ρ, c, ρ', rp, e, k⟩ := h
  unfold oListRange at e
  rw [Option.bind_eq_some_iff] at e
  obtain ⟨⟨ds, ρ1⟩, h1, e⟩ := e
  rw [Option.map_eq_some_iff] at e
  obtain ⟨⟨a, b⟩, hb, h2⟩ := e
  cases h2
  refine ⟨R, G, ρ, ds, _, a, b, rp, h1, hb, fun G1 H1 s1 r1 => ⟨(rgBnd_ok hb).1, fun q hq => ?_⟩⟩
  exact k G1 _ q s1 (r1.pushNew hq (ho := .lst (rgV a b)) (rgV_rel a b))

/-! ### enumerate -/
def enumL (ds : List D) : List D := (List.range ds.length).zipWith (fun i d => .tuple [.int (i : Nat), d]) ds
def enumD : List D → Option (List D)
  | [.list ds] => some (enumL ds)
  | _ => none
theorem enumL_length (ds : List D) : (enumL ds).length = ds.length := by simp [enumL]
theorem enumL_get {ds : List D} {i : Nat} {d : D} (h : (enumL ds)[i]? = some d) : ∃ x, ds[i]? = some x ∧ d = .tuple [.int (i : Nat), x] := by
  unfold enumL at h
  rw [List.getElem?_zipWith] at h
  have hi : i < ds.length := by
    cases q : ds[i]? with
    | none => rw [q] at h; simp at h
    | some x => exact (List.getElem?_eq_some_iff.mp q).1
  rw [List.getElem?_range hi, List.getElem?_eq_getElem hi] at h
  cases h
  exact ⟨_, List.getElem?_eq_getElem hi, rfl⟩
theorem walk_enum {K : Fr} {G : Hp} {a : Addr} {xs : List D} (ha : Dq K G (.ref a) (.list xs)) : WalkD K (Ite K a) G (enumL xs) := by
  cases ha with
  | lst h1 a1 =>
    rename_i us
    have sq1 : ∀ G' H, Same G G' → Same G' H → SqL K H a us := fun G' H s1 s2 => SqL.of (s2 _ _ (s1 _ _ h1))
    have l1 := a1.length
    refine ⟨fun i G' H s1 s2 hi => ?_, fun i G' H s1 s2 hi => ?_, fun i G' H v H' d s1 s2 hd hy => ?_⟩
    · rw [enumL_length] at hi
      exact ⟨us, us[i]'(by omega), sq1 G' H s1 s2, by simp⟩
    · rw [enumL_length] at hi
      exact ⟨us, sq1 G' H s1 s2, by omega⟩
    · obtain ⟨T, x, rfl, hT, rfl, f1⟩ := hy
      obtain ⟨dx, e1, rfl⟩ := enumL_get hd
      refine ⟨_, Gr.new s2 hT, .tup (SqT.of upd_same) ?_⟩
      have gg := (Gr.new (o := .tup [.int (i : Nat), x]) s2 hT).gg
      exact .cons (.int _) (.cons (Dq_mono (s1.trans gg) (a1.idx e1 (f1 us (sq1 G' H s1 s2)))) .nil)
theorem qi_enumerate {m : M (List D)} {elts : List Expr} {kk : Nat} {tpos : Pos} (hm : X.mg "enumerate" = none) (ha : QA X [e] m) (hg : Gl X "enumerate" := by rfl) (hs : starEach [e] X.env = [(false, eval e X.env)] := by rfl) :
    QI X (.Tuple elts kk tpos) (.Call (.Name "enumerate" p) [e] [] pos) (iApp enumD m) := by
  refine PI.imp (pi_enum hg hm ha hs) fun σ H Q h => ?_
  obtain ⟨R, G, ρ, ds, ρ', rp, e, k⟩ := h
  obtain ⟨xs, h1, h2⟩ := iApp_some e
  refine ⟨R, G, ρ, _, _, rp, h1, fun G1 H1 v1 s1 r1 d1 => ?_⟩
  unfold enumD at h2
  split at h2
  · cases h2
    cases d1 with
    | cons da dr =>
      cases dr
      cases id da with
      | lst ha1 _ => exact ⟨_, _, rfl, SqL.of (r1.subG _ _ ha1), k G1 H1 _ s1 r1 (walk_enum da)⟩
  · cases h2

/-! ### an own thing goes to another name -/
def oVar (j : Nat) : M Ow := fun ρ => match ρ[j]? with
  | some (.own c) => some (c, ρ.set j .un)
  | _ => none
theorem Rep.lend {K : Fr} {R G H : Hp} {ρ : Ro} {σ : St} {j : Nat} {c : Ow} (r : Rep K R G H ρ σ) (h : ρ[j]? = some (.own c)) : ∃ p, σ[j]? = some (some (.ref p)) ∧ Rep K R G H (ρ.set j .un ++ [.own c]) (σ ++ [some (.ref p)]) := by
  obtain ⟨p, ho, e, hp, gp, hR, x⟩ := r.slot j _ h
  have hj : j < ρ.length := (List.getElem?_eq_some_iff.mp h).1
  have from_ : ∀ (i : Nat) (s : Sl), (ρ.set j .un ++ [Sl.own c])[i]? = some s → s = .un ∨ ∃ i', ρ[i']? = some s ∧ (σ ++ [some (V.ref p)])[i]? = σ[i']? ∧ (i = ρ.length ∧ i' = j ∨ i < ρ.length ∧ i' = i ∧ i ≠ j) := fun i s hs => by
    by_cases hi : i < ρ.length
    · rw [List.getElem?_append_left (by simpa using hi)] at hs
      by_cases hij : j = i
      · subst hij
        rw [List.getElem?_set_self hj] at hs
        exact .inl (Option.some.inj hs).symm
      · rw [List.getElem?_set_ne hij] at hs
        exact .inr ⟨i, hs, List.getElem?_append_left (by rw [← r.len]; exact hi), .inr ⟨hi, rfl, Ne.symm hij⟩⟩
    · have h1 : (ρ.set j Sl.un ++ [Sl.own c])[i]? = [Sl.own c][i - ρ.length]? := by rw [List.getElem?_append_right (by simpa using hi), List.length_set]
      rw [h1] at hs
      have e0 : i - ρ.length = 0 := by
        cases q : i - ρ.length with
        | zero => rfl
        | succ k => rw [q] at hs; simp at hs
      rw [e0] at hs
      have hs : Sl.own c = s := Option.some.inj hs
      subst hs
      have ei : i = ρ.length := by omega
      refine .inr ⟨j, h, ?_, .inl ⟨ei, rfl⟩⟩
      rw [ei, e, r.len]
      simp
  refine ⟨p, e, ⟨by simp [r.len], r.subR, r.subG, r.dis, fun i s hs => ?_, fun i l c1 c2 q h1 h2 h3 h4 => ?_⟩⟩
  · rcases from_ i s hs with rfl | ⟨i', g, f, _⟩
    · trivial
    · rw [f]; exact r.slot i' s g
  · rcases from_ i _ h1 with z | ⟨i', g1, f1, w1⟩
    · cases z
    · rcases from_ l _ h2 with z | ⟨l', g2, f2, w2⟩
      · cases z
      · rw [f1] at h3
        rw [f2] at h4
        have := r.apart i' l' c1 c2 q g1 g2 h3 h4
        rcases w1 with ⟨a1, a2⟩ | ⟨a1, a2, a3⟩ <;> rcases w2 with ⟨b1, b2⟩ | ⟨b1, b2, b3⟩ <;> omega
theorem qo_var (j : Nat) (hN : X.N[j]? = some x := by rfl) (hv : Vis X.env.scope x := by first | exact Or.inl rfl | exact Or.inr (Or.inl rfl) | exact Or.inr (Or.inr rfl)) (hd : (x == ("__debug__" : Str)) = false := by decide) (hcd : (x == ("__classdict__" : Str)) = false := by decide) : QO X (.Name x p) (oVar j) := by
  refine PE.imp (pe_var hN hv hd hcd) fun σ H Q h => ?_
  obtain ⟨R, G, ρ, c, ρ', rp, e, k⟩ := h
  unfold oVar at e
  split at e
  · rename_i c0 h0
    cases e
    obtain ⟨q, eq, r1⟩ := rp.lend h0
    exact ⟨.ref q, eq, k G H q (.refl _) r1⟩
  · cases e

/-! ### x[a], x[b] = e, x one's own list -/
def gIxO (i : Nat) (a : M D) (d : D) (ρ : Ro) : Option Ro := (ownL ρ i).bind fun _ => (a ρ).bind fun q => (ownL q.2 i).bind fun ds => match q.1 with
  | .int j => (ixN ds.length j).map fun n => q.2.set i (.own (.lst (ds.set n d)))
  | _ => none
def sSwap (i : Nat) (a b e : M D) : MS := fun ρ => (e ρ).bind fun p => match p.1 with
  | .tuple [d1, d2] => (gIxO i a d1 p.2).bind fun ρ1 => (gIxO i b d2 ρ1).map fun ρ2 => (.nx, ρ2)
  | _ => none
theorem gIxO_ok {K : Fr} {i : Nat} {a : M D} {d : D} {v : V} {R G H : Hp} {ρ ρ' : Ro} {σ : St} {Q : L2.St → Hp → Prop} (rp : Rep K R G H ρ σ) (hd : Dq K G v d) (e : gIxO i a d ρ = some ρ') (k : ∀ G' H', Same G G' → Rep K R G' H' ρ' σ → Q σ H') :
    gSub (tVar i) (tM K a) rSetL v σ H Q := by
  unfold gIxO at e
  rw [Option.bind_eq_some_iff] at e
  obtain ⟨ds0, h0, e⟩ := e
  rw [Option.bind_eq_some_iff] at e
  obtain ⟨⟨z, ρ2⟩, h2, e⟩ := e
  rw [Option.bind_eq_some_iff] at e
  obtain ⟨ds, h3, e⟩ := e
  cases z <;> try (cases e; done)
  rename_i j
  simp only at e
  rw [Option.map_eq_some_iff] at e
  obtain ⟨l, hl, e⟩ := e
  cases e
  obtain ⟨q, vs0, eq0, hq0, _⟩ := rp.ownAt (ownL_some h0)
  refine ⟨.ref q, eq0, R, G, ρ, .int j, ρ2, rp, h2, fun G2 H2 v2 s2 r2 d2 => ?_⟩
  obtain ⟨q', vs, eq, hq, dv⟩ := r2.ownAt (ownL_some h3)
  rw [eq0] at eq
  cases eq
  cases d2
  refine ⟨_, vs, j, l, rfl, rfl, hq, by rw [dv.length]; exact hl, k G2 _ s2 (r2.write (ownL_some h3) eq0 (c' := .lst (ds.set l d)) (ho := .lst (vs.set l v)) ?_)⟩
  exact DqAll.set (Dq_mono s2 hd) l dv
theorem qs_swap (i : Nat) {m n l : M D} {b : Expr} {pa pb px py : Pos} {kt : Nat} {pt : Pos} (ha : QE X a m) (hb : QE X b n) (he : QE X e l) (hN : X.N[i]? = some x := by rfl) (hv : Vis X.env.scope x := by first | exact Or.inl rfl | exact Or.inr (Or.inl rfl) | exact Or.inr (Or.inr rfl)) (hd : (x == ("__debug__" : Str)) = false := by decide) (hcd : (x == ("__classdict__" : Str)) = false := by decide) (hc : X.calm = true := by rfl)
    (hs : swapsWithSole [.Tuple [.Subscript (.Name x px) a pa, .Subscript (.Name x py) b pb] kt pt] e pos.line X.env = pure false := by rfl) (hw : swappedStores [.Tuple [.Subscript (.Name x px) a pa, .Subscript (.Name x py) b pb] kt pt] e X.env = pure none := by rfl)
    (h1 : (assignEach [.Tuple [.Subscript (.Name x px) a pa, .Subscript (.Name x py) b pb] kt pt] X.env).map (·.2) = [assign (.Tuple [.Subscript (.Name x px) a pa, .Subscript (.Name x py) b pb] kt pt) X.env] := by rfl)
    (has : ∀ v, assign (.Subscript (.Name x px) a pa) X.env v = (do
      let ov ← holding [v] (eval (.Name x px) X.env)
      let iv ← holding [v, ov] (eval a X.env)
      standAt pa
      holding [v, ov, iv] (setItem ov iv v)
      release [v, ov, iv] []) := by intro _; rfl)
    (hbs : ∀ v, assign (.Subscript (.Name x py) b pb) X.env v = (do
      let ov ← holding [v] (eval (.Name x py) X.env)
      let iv ← holding [v, ov] (eval b X.env)
      standAt pb
      holding [v, ov, iv] (setItem ov iv v)
      release [v, ov, iv] []) := by intro _; rfl)
    (hn : (assignEach [.Subscript (.Name x px) a pa, .Subscript (.Name x py) b pb] X.env).length = 2 := by rfl) (hst : (assignEach [.Subscript (.Name x px) a pa, .Subscript (.Name x py) b pb] X.env).findIdx? (·.1) = none := by rfl)
    (hs1 : (assignEach [.Subscript (.Name x px) a pa, .Subscript (.Name x py) b pb] X.env).map (·.2) = assign (.Subscript (.Name x px) a pa) X.env :: (assignEach [.Subscript (.Name x py) b pb] X.env).map (·.2) := by rfl)
    (hs2 : (assignEach [.Subscript (.Name x py) b pb] X.env).map (·.2) = assign (.Subscript (.Name x py) b pb) X.env :: (assignEach [] X.env).map (·.2) := by rfl) :
    QS X [] (.Assign [.Tuple [.Subscript (.Name x px) a pa, .Subscript (.Name x py) b pb] kt pt] e pos) (sSwap i m n l) := by
  refine PS.imp (ps_asg he (pg_tup hc (pgs_cons (pg_sub (pe_var hN hv hd hcd) ha set_list has) (pgs_cons (pg_sub (pe_var hN hv hd hcd) hb set_list hbs) pgs_nil hs2) hs1) hn hst) hs hw h1) fun E σ H h => ?_
  obtain ⟨R, G, ρ, f, ρ', rp, e, k⟩ := h
  unfold sSwap at e
  rw [Option.bind_eq_some_iff] at e
  obtain ⟨⟨y, ρ1⟩, e1, e⟩ := e
  simp only at e
  split at e
  · rename_i d1 d2 _
    rw [Option.bind_eq_some_iff] at e
    obtain ⟨ρ2, e2, e⟩ := e
    rw [Option.map_eq_some_iff] at e
    obtain ⟨ρ3, e3, e⟩ := e
    cases e
    refine ⟨R, G, ρ, _, ρ1, rp, e1, fun G1 H1 v1 s1 r1 t1 => ?_⟩
    cases t1 with
    | tup hq hs =>
      rename_i q xs
      cases hs with
      | cons da hs =>
        cases hs with
        | cons db hs =>
          cases hs
          refine ⟨q, _, rfl, SqT_mono r1.subG hq, rfl, _, _, rfl, gIxO_ok r1 da e2 fun G2 H2 s2 r2 => ⟨_, _, rfl, gIxO_ok r2 (Dq_mono s2 db) e3 fun G3 H3 s3 r3 => ⟨rfl, k G3 H3 σ ((s1.trans s2).trans s3) r3 (.refl _ _)⟩⟩⟩
  · cases e
end

/-! ### defs that keep what they are given -/
def noOwn : Sl → Sl
  | .own _ => .un
  | s => s
def endC (ss : List Sl) : Fl × Ro → Option (D × List Sl)
  | (.rt d, _) => some (d, ss.map noOwn)
  | (.nx, _) => some (.none, ss.map noOwn)
  | _ => none
def runC (n N : Nat) (body : MS) : List Sl → Option (D × List Sl) := fun ss => if ss.length = n ∧ n ≤ N then (body (ss ++ List.replicate (N - n) Sl.un)).bind (endC ss) else none
theorem noOwn_ne {s : Sl} {c : Ow} : noOwn s ≠ .own c := by cases s <;> exact fun h => nomatch h
theorem runC_ok {n N : Nat} {body : MS} : FOk n (runC n N body) where
  len := by
    intro ss r h
    unfold runC at h
    split at h
    · rename_i z; exact z.1
    · cases h
  own := by
    intro ss d ss' l c h e
    unfold runC at h
    split at h
    · rw [Option.bind_eq_some_iff] at h
      obtain ⟨⟨f, ρ'⟩, h1, h⟩ := h
      have key : ss' = ss.map noOwn := by cases f <;> cases h <;> rfl
      subst key
      rw [List.getElem?_map, Option.map_eq_some_iff] at e
      obtain ⟨s, _, e⟩ := e
      exact absurd e noOwn_ne
    · cases h
theorem fnC {P : Program} {w : World} {K : Fr} {mg : Str → Option Value} {base : Heap} {x qual : Str} {st : Stmt} {f : Addr} {fd : FuncData} {N ps : List Str} {k : Nat} {W : List Nat} {body : MS} (F : Fun K x qual st f fd) (S : FnScope N ps (defScope st))
    (h : ∀ (cdv : Value) (A : Around) (outer : List Env) (s : Shared) (H : Hp) (E : XK), Room k (A.deeper (envOfC qual (defScope st) s.heap.objs.size f cdv)) → QSs (cxOf CX0 P w K mg base N qual (defScope st) f cdv A outer s H E).nox W (defBody st) body)
    (hN : ps.length ≤ N.length := by decide) : FnOk P w K mg base CX0 (k + 1) f fd ps (spO K (runC ps.length N.length body) ps.length) := by
  refine F.ok S (fun vs H Q E h => h.1) (fun cdv A outer s H vs Q E hr hsp => ⟨_, h cdv A outer s H E hr, ?_⟩)
  obtain ⟨hl, R, G, ss, d, ss', rp, e, k⟩ := hsp
  unfold runC at e
  split at e
  · rename_i hn
    obtain ⟨hn, _⟩ := hn
    rw [Option.bind_eq_some_iff] at e
    obtain ⟨⟨fl, ρ'⟩, h1, e⟩ := e
    have hss : ss.length = vs.length := by rw [hn, hl]
    have sget : ∀ l : Nat, l < vs.length → (L2.start N vs)[l]? = (vs.map some)[l]? := fun l hl' => by
      show (vs.map some ++ _)[l]? = _
      rw [List.getElem?_append_left (by simpa using hl')]
    have rep0 : Rep K R G H (ss ++ List.replicate (N.length - ps.length) Sl.un) (L2.start N vs) := by
      have key : ∀ (i : Nat) (t : Sl), (ss ++ List.replicate (N.length - ps.length) Sl.un)[i]? = some t → t = .un ∨ (ss[i]? = some t ∧ (L2.start N vs)[i]? = (vs.map some)[i]?) := fun i t ht => by
        by_cases hi : i < ss.length
        · rw [List.getElem?_append_left hi] at ht
          exact .inr ⟨ht, sget i (by rw [← hss]; exact hi)⟩
        · rw [List.getElem?_append_right (by omega), List.getElem?_replicate] at ht
          split at ht
          · exact .inl (Option.some.inj ht).symm
          · cases ht
      refine ⟨?_, rp.subR, rp.subG, rp.dis, fun i t ht => ?_, fun i j c c' p h1 h2 h3 h4 => ?_⟩
      · simp [L2.start, hss, hl]
      · rcases key i t ht with rfl | ⟨a, b⟩
        · trivial
        · rw [b]; exact rp.slot i t a
      · rcases key i _ h1 with z | ⟨a, b⟩
        · cases z
        · rcases key j _ h2 with z | ⟨a2, b2⟩
          · cases z
          · rw [b] at h3; rw [b2] at h4
            exact rp.apart i j c c' p a a2 h3 h4
    have fin : ∀ G' H' (σ' : L2.St), Same G G' → Rep K R G' H' ρ' σ' → Rep K R G' H' (ss.map noOwn) (vs.map some) := fun G' H' σ' sG r => by
      refine ⟨by rw [List.length_map, List.length_map]; exact hss, r.subR, r.subG, r.dis, fun l t ht => ?_, fun i j c c' p h1 h2 h3 h4 => ?_⟩
      · rw [List.getElem?_map, Option.map_eq_some_iff] at ht
        obtain ⟨s0, a, e⟩ := ht
        subst e
        have so := rp.slot l s0 a
        cases s0 with
        | un => trivial
        | dat d => obtain ⟨v, e, x⟩ := so; exact ⟨v, e, Dq_mono sG x⟩
        | scr ns => obtain ⟨v, e, x⟩ := so; exact ⟨v, e, sG.seq x⟩
        | ref t => exact SlT_mono sG so
        | own c0 => trivial
      · rw [List.getElem?_map, Option.map_eq_some_iff] at h1
        obtain ⟨s, _, e⟩ := h1
        exact absurd e noOwn_ne
    refine ⟨R, G, _, fl, ρ', rep0, h1, ?_⟩
    cases fl with
    | nx =>
      cases e
      intro G' H' σ' s r fr
      exact k G' H' _ s (fin G' H' σ' s r) .non
    | bk => cases e
    | ct => cases e
    | rt d =>
      cases e
      exact fun G' H' σ' v s r fr dv => k G' H' v s (fin G' H' σ' s r) dv
  · cases e
end QL
set_option Elab.async false
set_option linter.all false
set_option maxRecDepth 100000
set_option maxHeartbeats 1000000
namespace QL
open PySem PySem.Spec PyProof.Rows L2
section
variable {X : Cx} {pos : Pos}
/-! ### a, b, c = x, y, z -/
def sPar3 (i j l : Nat) (as : M (List Sl)) : MS := fun ρ => (as ρ).bind fun p => match p.1 with
  | [x, y, z] => if noScr x && noScr y && noScr z && decide (j < p.2.length) && decide (l < p.2.length) then some (.nx, ((p.2.set i x).set j y).set l z) else none
  | _ => none
theorem qs_par3 {i j l : Nat} {x y z : Str} {a b c : Expr} {m : M (List Sl)} {px py pz pt : Pos} {kt k2 pt2} (hN : X.N.Nodup) (ha : QX X [a, b, c] m) (hc : X.calm = true := by rfl) (hi : X.N[i]? = some x := by rfl) (hj : X.N[j]? = some y := by rfl) (hl : X.N[l]? = some z := by rfl) (hij : i ≠ j := by decide) (hil : i ≠ l := by decide) (hjl : j ≠ l := by decide)
    (hx : X.env.scope.names.lookup x = some .local := by rfl) (hy : X.env.scope.names.lookup y = some .local := by rfl) (hz : X.env.scope.names.lookup z = some .local := by rfl)
    (hw : swappedStores [.Tuple [.Name x px, .Name y py, .Name z pz] kt pt] (.Tuple [a, b, c] k2 pt2) X.env = pure (some [x, y, z]) := by rfl)
    (hs : swapsWithSole [.Tuple [.Name x px, .Name y py, .Name z pz] kt pt] (.Tuple [a, b, c] k2 pt2) pos.line X.env = pure false := by rfl) :
    QS X [i, j, l] (.Assign [.Tuple [.Name x px, .Name y py, .Name z pz] kt pt] (.Tuple [a, b, c] k2 pt2) pos) (sPar3 i j l m) := by
  refine PS.imp (ps_par3 hc hN hi hj hl hij hil hjl hx hy hz ha hw hs) fun E σ H h => ?_
  obtain ⟨R, G, ρ, f, ρ', rp, e, k⟩ := h
  unfold sPar3 at e
  rw [Option.bind_eq_some_iff] at e
  obtain ⟨⟨ss, ρ1⟩, h1, e⟩ := e
  refine ⟨R, G, ρ, ss, ρ1, rp, h1, fun G1 H1 vs s1 l1 r1 => ?_⟩
  match ss, vs, l1, e with
  | [s, t, q], [v, w, u], _, e =>
    simp only at e
    split at e
    · rename_i hb
      cases e
      simp only [Bool.and_eq_true, decide_eq_true_eq] at hb
      obtain ⟨⟨⟨⟨n1, n2⟩, n3⟩, hjl'⟩, hll'⟩ := hb
      have hl := r1.len
      have hlen : ρ1.length = σ.length := by simp at hl; exact hl
      refine ⟨v, w, u, rfl, k G1 H1 _ s1 ?_ (fun y hy => by rw [List.getElem?_set_ne fun z => hy (by simp [z]), List.getElem?_set_ne fun z => hy (by simp [z]), List.getElem?_set_ne fun z => hy (by simp [z])])⟩
      have r2 : Rep X.K R G1 H1 (((ρ1 ++ [s]) ++ [t]) ++ [q]) (((σ ++ [some v]) ++ [some w]) ++ [some u]) := by simpa using r1
      have r3 := Rep.move (by simp [hlen]) (noScr_ne n3) r2 l
      rw [List.set_append_left _ _ (by simp; omega), List.set_append_left _ _ hll', List.set_append_left _ _ (by simp; omega), List.set_append_left _ _ (by omega)] at r3
      have r4 := Rep.move (by simp [hlen]) (noScr_ne n2) r3 j
      rw [List.set_append_left _ _ (by simp; omega), List.set_append_left _ _ (by simp; omega)] at r4
      have r5 := Rep.move (by simp [hlen]) (noScr_ne n1) r4 i
      have c1 : ((ρ1.set i s).set j t).set l q = ((ρ1.set l q).set j t).set i s := by
        rw [List.set_comm _ _ hij, List.set_comm _ _ hil, List.set_comm _ _ hjl]
      have c2 : ((σ.set i (some v)).set j (some w)).set l (some u) = ((σ.set l (some u)).set j (some w)).set i (some v) := by
        rw [List.set_comm _ _ hij, List.set_comm _ _ hil, List.set_comm _ _ hjl]
      rw [c1, c2]
      exact r5
    · cases e
  | [], _, _, e => cases e
  | [_], _, _, e => cases e
  | [_, _], _, _, e => cases e
  | _ :: _ :: _ :: _ :: _, _, _, e => cases e
/-! ### (a, b, ..) = a list -/
def gLst (fs : List (D → Ro → Option Ro)) : D → Ro → Option Ro := fun d ρ => match d with
  | .list ds => gTupF fs ds ρ
  | _ => none
theorem gTupF_len : ∀ (fs : List (D → Ro → Option Ro)) (ds : List D) (ρ ρ' : Ro), gTupF fs ds ρ = some ρ' → ds.length = fs.length
  | [], [], _, _, _ => rfl
  | [], _ :: _, _, _, h => nomatch h
  | _ :: _, [], _, _, h => nomatch h
  | f :: fs, d :: ds, ρ, ρ', h => by
    unfold gTupF at h
    rw [Option.bind_eq_some_iff] at h
    obtain ⟨ρ1, _, h⟩ := h
    rw [List.length_cons, List.length_cons, gTupF_len fs ds ρ1 ρ' h]
theorem qg_unl {es : List Expr} {vs : List Nat} {fs : List (D → Ro → Option Ro)} {k : Nat} (h : QGs X vs es fs) (hc : X.calm = true := by rfl)
    (hn : (assignEach es X.env).length = fs.length := by rfl) (hst : (assignEach es X.env).findIdx? (·.1) = none := by rfl) : QG X vs (.Tuple es k pos) (gLst fs) := by
  refine PG.imp (pg_unl hc h hn hst) fun v σ H Q w => ?_
  obtain ⟨R, G, ρ, d, ρ', rp, dd, e, k⟩ := w
  cases dd with
  | lst hs ha =>
    rename_i a xs ds
    have e' : gTupF fs ds ρ = some ρ' := e
    exact ⟨a, xs, rfl, SqL.of (rp.subG _ _ hs), ha.length.trans (gTupF_len fs ds ρ ρ' e'), R, G, ρ, ds, ρ', rp, ha, e', k⟩
  | non => cases e
  | bl b => cases e
  | int i => cases e
  | str x => cases e
  | tup hs ha => cases e
  | dic hs ha => cases e
/-! ### index of a whole number in a list of whole numbers -/
theorem intsOf_map : ∀ (ds : List D) (xs : List Int), intsOf ds = some xs → ds = xs.map PyData.int
  | [], xs, h => by cases h; rfl
  | d :: ds, xs, h => by
    cases d with
    | int i =>
      unfold intsOf at h
      rw [Option.map_eq_some_iff] at h
      obtain ⟨ys, h1, h2⟩ := h
      subst h2
      rw [intsOf_map ds ys h1]
      rfl
    | _ => cases h
def dIndex : D → D → Option D
  | .list ds, .int k => (intsOf ds).bind fun xs => if k ∈ xs then some (.int (xs.idxOf k : Nat)) else none
  | _, _ => none
theorem dqInts {K : Fr} {G : Hp} : ∀ {vs : List V} {xs : List Int}, DqAll K G vs (xs.map PyData.int) → vs = xs.map V.int
  | [], [], _ => rfl
  | v :: vs, x :: xs, h => by
    cases h with
    | cons a b =>
      cases a
      rw [dqInts b]
      rfl
theorem before_idx (k : Int) : ∀ (xs : List Int) (m : Nat) (z : Int), m < xs.idxOf k → xs[m]? = some z → z ≠ k
  | [], m, z, h, _ => by simp at h
  | x :: xs, m, z, h, e => by
    by_cases q : x = k
    · subst q; simp at h
    · have hq : (x == k) = false := by simp [q]
      rw [List.idxOf_cons, hq] at h
      simp only [cond_false] at h
      cases m with
      | zero => simp at e; rw [← e]; exact q
      | succ m => exact before_idx k xs m z (by omega) (by simpa using e)
theorem eqV_int (a b : Int) : eqV (V.int a) (V.int b) = decide (a = b) := by
  by_cases q : a = b
  · subst q; simp [eqV]
  · simp [eqV, q]
theorem flat_ints : ∀ xs : List Int, (xs.map V.int).all flatV = true
  | [] => rfl
  | x :: xs => by rw [List.map_cons, List.all_cons, flat_ints xs]; rfl
theorem qe_index {o a : Expr} {m n : M D} {apos cpos : Pos} (ho : QE X o m) (ha : QE X a n)
    (hbase : attributeBase o "index" X.env (eval o X.env) = eval o X.env := by rfl)
    (hfew : ((backTo cpos (starEach [a] X.env)).all (fun x => !x.1) && (backToKw cpos (keywordEach [] X.env)).all (fun x => x.1.isSome)
      && decide ([a].length + ([] : List Keyword).length + (if ([] : List Keyword).isEmpty then 0 else 1) < 30)) = true := by rfl)
    (hline : (apos.endLine == cpos.line) = true := by rfl) (hs : starEach [a] X.env = (false, eval a X.env) :: starEach [] X.env := by rfl) (hplain : (backTo cpos (starEach [] X.env)).any (·.1) = false := by rfl) :
    QE X (.Call (.Attribute o "index" apos) [a] [] cpos) (eOp2 dIndex m n) := by
  refine PE.imp (pe_bm PySem.F.plainAttrs_list PySem.F.slot_list_index PySem.F.type_list_index mt_index ho (pa_cons ha pa_nil hs) hbase hfew hline hs hplain) fun σ H Q w => ?_
  obtain ⟨R, G, ρ, d, ρ', rp, e, k⟩ := w
  obtain ⟨x, ρ1, y, h1, h2, h3⟩ := bind2 e
  refine ⟨R, G, ρ, x, ρ1, rp, h1, fun G1 H1 v1 s1 r1 d1 => ?_⟩
  cases d1 with
  | lst hq dv =>
    rename_i q vs ds
    refine ⟨.inl ⟨rfl, vs, SqL.of (r1.subG _ _ hq)⟩, R, G1, ρ1, y, ρ', r1, h2, fun G2 H2 v2 s2 r2 d2 => ?_⟩
    cases d2 with
    | int i =>
      unfold dIndex at h3
      simp only at h3
      rw [Option.bind_eq_some_iff] at h3
      obtain ⟨xs, hx, h3⟩ := h3
      split at h3
      · rename_i hm
        cases h3
        have e1 := intsOf_map ds xs hx
        subst e1
        have e2 := dqInts dv
        subst e2
        have hlt := List.idxOf_lt_length_of_mem hm
        refine ⟨q, xs.map V.int, .int i, xs.idxOf i, .int i, rfl, rfl, SqL.of (r2.subG _ _ (s2 _ _ hq)), rfl, flat_ints xs, ?_, by rw [eqV_int]; simp, fun l z hl hz => ?_, k G2 H2 _ (s1.trans s2) r2 (.int _)⟩
        · rw [List.getElem?_map, List.getElem?_eq_getElem hlt, List.getElem_idxOf hlt]
          rfl
        · rw [List.getElem?_map] at hz
          cases hz2 : xs[l]? with
          | none => rw [hz2] at hz; cases hz
          | some z' =>
            rw [hz2] at hz
            cases hz
            rw [eqV_int, decide_eq_false (before_idx i xs l z' hl hz2)]
      · cases h3
    | _ => cases h3
  | _ => cases y <;> cases h3
end
end QL
set_option Elab.async false
set_option linter.all false
set_option maxRecDepth 100000
set_option maxHeartbeats 1000000
namespace QL
open PySem PySem.Spec PyProof.Rows L2 RZ
/-! ### enumerate of a tuple -/
theorem drw_tup {pr : Program} {wd : World} {Ar : Around} (hh : Ar.handled = none) (j t : Addr) (hjt : t ≠ j) (vs : Array Value) :
    Draws pr wd Ar j [j, t] vs.size (fun k y => vs[k]? = some y) (fun k hp => hp.IsTupleIter j t k ∧ hp.IsTuple t vs) := by
  refine ⟨fun k hp st => ?_, fun k hp hp' st keep => ?_, fun k s Q E hk st hQ => ?_, fun s Q E st hE => ?_⟩
  · obtain ⟨⟨o, ho, _⟩, _⟩ := st
    exact ⟨o, ho⟩
  · obtain ⟨o, ho, hc, n, hd⟩ := st.2
    exact ⟨st.1.at fun o e => keep j (by simp) o e, o, keep t (by simp) o ho, hc, n, hd⟩
  · refine nextOf_tuple_item st.1 st.2 (x := vs[k]) (by simp [hk]) fun hp' it' sb => hQ _ hp' s.toks (by simp [hk]) ⟨it', ?_⟩ sb
    obtain ⟨o, ho, hc, n, hd⟩ := st.2
    exact ⟨o, (sb.2 t hjt).trans ho, hc, n, hd⟩
  · exact nextOf_tuple_end hh st.1 st.2 (by simp) hE
theorem meets_enumT (t : Addr) (vs : Array Value) (k : Nat) (dct : Option Addr) (sl : Array (Option Value)) :
    Meets (Builtin.«enumerate.__new__» ⟨[.type "enumerate", .ref t], []⟩) (fun _ R sh => sh.heap.get? t = some { cls := .type "tuple", dict := dct, data := .seq vs k, slots := sl } ∧
      R (.ok (.ret (.ref (sh.heap.push { cls := .type "tuple_iterator", data := .fields #[.ref t, .int 0 0] }).objs.size)))
        { sh with heap := (sh.heap.push { cls := .type "tuple_iterator", data := .fields #[.ref t, .int 0 0] }).push { cls := .type "enumerate", data := .fields #[.none, .bool false, .ref sh.heap.objs.size, rawInt 0, .none, .none] } }) :=
  .of_wp fun pr wd Ar R sh hyp => by
    obtain ⟨hpp, g, d, tk, os⟩ := sh
    obtain ⟨hl, hyp⟩ := hyp
    have hsub := sub_enumerate
    have hL : Heap.IsTuple (Shared.heap ⟨hpp, g, d, tk, os⟩) t vs := ⟨_, hl, rfl, k, rfl⟩
    wp_walk using AutoSeq1.wpAny_loadPart' hl
    refine wpAny_stack_any fun stk => wpAny_pure ?_
    split
    · rename_i cl _ _ _ _ _
      cases (cl == Value.type "enumerate")
      · wp_walk using AutoSeq1.wpAny_loadPart' hl, wpAny_pyIter_tuple hL
        exact ⟨_, rfl, hyp⟩
      · wp_walk using AutoSeq1.wpAny_loadPart' hl, wpAny_pyIter_tuple hL
        exact ⟨_, rfl, hyp⟩
    · wp_walk using AutoSeq1.wpAny_loadPart' hl, wpAny_pyIter_tuple hL
      exact ⟨_, rfl, hyp⟩
theorem call_enumT {pr : Program} {wd : World} {Ar : Around} {E : Value → Shared → Prop} {sh : Shared} {t : Addr} {vs : Array Value} {Q : Value → Shared → Prop} (hL : sh.heap.IsTuple t vs)
    (hyp : ∀ hp, IsEnum hp (sh.heap.objs.size + 1) sh.heap.objs.size 0 .none → hp.IsTupleIter sh.heap.objs.size t 0 → hp.objs.size = sh.heap.objs.size + 2 →
      (∀ b o, sh.heap.get? b = some o → hp.get? b = some o) → Q (.ref (sh.heap.objs.size + 1)) { sh with heap := hp }) :
    wpAny (model pr wd) Ar (call (.type "enumerate") [.ref t]) Q E sh := by
  obtain ⟨⟨cc, dct, dt, sl⟩, hl, hc, k, hd⟩ := hL
  replace hc : cc = .type "tuple" := hc
  replace hd : dt = .seq vs k := hd
  subst hc hd
  refine callType_new F.called_enumerate (by decide) (F.typeCall_enumerate_1 _) (F.newCall_enumerate_1 _) (fun ob => F.args_object_init_2 ob _) F.entry_enumerate_new (meets_enumT t vs k dct sl) ⟨hl, ?_⟩
  have hz : (sh.heap.push { cls := .type "tuple_iterator", data := .fields #[.ref t, .int 0 0] }).objs.size = sh.heap.objs.size + 1 := Heap.size_push ..
  show _ ∧ _
  rw [hz]
  have he : IsEnum ((sh.heap.push { cls := .type "tuple_iterator", data := .fields #[.ref t, .int 0 0] }).push { cls := .type "enumerate", data := .fields #[.none, .bool false, .ref sh.heap.objs.size, rawInt 0, .none, .none] }) (sh.heap.objs.size + 1) sh.heap.objs.size 0 .none := by
    have z := Heap.get?_push_size (sh.heap.push { cls := .type "tuple_iterator", data := .fields #[.ref t, .int 0 0] }) (o := { cls := .type "enumerate", data := .fields #[.none, .bool false, .ref sh.heap.objs.size, rawInt 0, .none, .none] }) rfl
    rw [hz] at z
    exact z
  exact ⟨⟨_, he, rfl⟩, hyp _ he ⟨_, Heap.get?_push_of_some _ (Heap.get?_push_size _ rfl), rfl, rfl⟩ (by rw [Heap.size_push, hz]) fun b o x => Heap.get?_push_of_some _ (Heap.get?_push_of_some _ x)⟩
/-- the tuple at a, each item in a new pair -/
def IteT (K : PySem.W.Frag) (a : Addr) : It :=
  ⟨fun i H => ∃ (xs : List V) (x : V), SqT K H a xs ∧ xs[i]? = some x, fun i H v H' => ∃ T x, v = .ref T ∧ H T = none ∧ H' = upd H T (.tup [.int (i : Nat), x]) ∧ ∀ xs, SqT K H a xs → xs[i]? = some x, fun i H => ∃ xs : List V, SqT K H a xs ∧ xs.length ≤ i⟩
theorem tup_apart {hp : Heap} {a e it : Addr} {vs : Array Value} {k : Int} {m : Nat} {old : Value} (ht : hp.IsTuple a vs) (he : IsEnum hp e it k old) (hi : hp.IsTupleIter it a m) : e ≠ a ∧ a ≠ it := by
  obtain ⟨o, h1, h2, _⟩ := ht
  refine ⟨fun z => ?_, fun z => ?_⟩
  · subst z
    rw [show hp.get? e = some _ from he] at h1
    cases h1
    have h5 : Value.type "enumerate" = Value.type "tuple" := h2
    exact absurd h5 (by decide)
  · obtain ⟨o', h3, h4, _⟩ := hi
    subst z
    rw [h1] at h3
    cases h3
    rw [h2] at h4
    exact absurd h4 (by decide)
theorem next_enumT_end {pr : Program} {wd : World} {Ar : Around} {E : Value → Shared → Prop} {sh : Shared} {en it a : Addr} {m : Nat} {vs : Array Value} {k : Int} {old : Value} {Q : Option Value → Shared → Prop} (hh : Ar.handled = none)
    (hen : IsEnum sh.heap en it k old) (hi : sh.heap.IsTupleIter it a m) (ht : sh.heap.IsTuple a vs) (hx : vs[m]? = none)
    (hQ : ∀ hp, Heap.ExtBut it sh.heap hp → Q none { sh with heap := hp }) : wpAny (model pr wd) Ar (pyNext (.ref en)) Q E sh := by
  have hTy : sh.TypeIs (.ref en) "enumerate" := ⟨_, hen, rfl⟩
  unfold pyNext
  refine wpAny_bind (wpAny_attempt (wpAny_callSpecial?_slot (name := Str.ofString "__next__") hTy F.slot_enumerate_next (wpAny_call_entry F.slot_enumerate_next hTy F.entry_enumerate_next ?_ (F.args_enumerate_next_1 _))))
  show wpAny _ _ (field (.ref en) 2 >>= _) _ _ _
  refine wpAny_bind (wpAny_field hen rfl (x := .ref it) rfl ?_)
  refine wpAny_bind (nextOf_tuple_end (show Ar.in1.handled = none from hh) hi ht hx fun hp y hE hy => ?_)
  obtain ⟨ob, hob, hcl⟩ := hy
  refine wpAny_bind (wpAny_isInstance (T := "StopIteration") (b := true) ⟨ob, hob, hcl⟩ isSubtype_stop ?_)
  exact wpAny_pure (hQ _ hE)
theorem turn_enumT {pr : Program} {wd : World} {K : PySem.W.Frag} {elts : List Expr} {kk : Nat} {tpos : Pos} (a e it : Addr) :
    Turn pr wd K (.Tuple elts kk tpos) (IteT K a) [e, it] e (fun i hp => (∃ old, IsEnum hp e it ((i : Nat) : Int) old) ∧ hp.IsTupleIter it a i ∧ e ≠ it) where
  mem := by simp
  obj := fun i hp st b hb => by
    obtain ⟨⟨old, he⟩, ⟨ob, hob, hcl, hda⟩, _⟩ := st
    have eb : b = e ∨ b = it := by simpa using hb
    rcases eb with rfl | rfl
    · exact ⟨_, he, fun v q => nomatch q⟩
    · exact ⟨ob, hob, fun v q => by rw [hda] at q; cases q⟩
  keep := fun i hp hp' st kp => by
    obtain ⟨⟨old, he⟩, hi, hn⟩ := st
    exact ⟨⟨old, kp e (by simp) _ he⟩, hi.at fun ob q => kp it (by simp) ob q, hn⟩
  item := by
    intro X hP hw hK hc i pins sh σ H E I hf st hg
    subst hP hw hK
    obtain ⟨⟨old, he⟩, hi, hn⟩ := st
    obtain ⟨xs, x, hq, hx⟩ := hg
    obtain ⟨its, rv, pt, _⟩ := I.tuple hq
    obtain ⟨uu, hu, ru⟩ := rv.get hx
    have ht : sh.heap.IsTuple a its.toArray := by
      obtain ⟨ob, q1, q2, q3, q4⟩ := pt
      exact ⟨ob, q1, q2, q3, q4⟩
    obtain ⟨hea, hai⟩ := tup_apart ht he hi
    have hel : e < sh.heap.objs.size := Heap.lt_size he
    have hil : it < sh.heap.objs.size := by
      obtain ⟨_, q, _⟩ := id hi
      exact Heap.lt_size q
    have hlt : i < its.toArray.size := by
      have := (List.getElem?_eq_some_iff.mp hu).1
      simpa using this
    refine wpAny_pyNext_enum_itemD (drw_tup (Ar := X.A.in1) (show X.A.in1.handled = none from I.ok.hd hc) it a hai its.toArray) he ⟨hi, ht⟩ hlt hn (by simp [hn, hea]) fun y hp tk hy ho hst hT hsz kp => ?_
    have hyu : y = uu := by
      have : its.toArray[i]? = some uu := by simpa using hu
      rw [this] at hy
      exact (Option.some.inj hy).symm
    subst hyu
    refine ⟨_, rfl, wpAny_letOwnedTupleGo_enum (s := { sh with heap := hp, toks := tk + 1 }) ho fun hp2 he2 sb => ?_⟩
    have hT2 : hp2.get? sh.heap.objs.size = some { cls := .type "tuple", data := .seq #[.int i tk, y] } := (sb.2 _ (Nat.ne_of_gt hel)).trans hT
    have nw : ObjOk X.prog X.w (upd H sh.heap.objs.size (.tup [.int (i : Nat), x])) hp2 sh.heap.objs.size (.tup [.int (i : Nat), x]) :=
      ⟨by show 2 ≤ sizeLine; decide, [.int i tk, y], .cons ⟨_, rfl⟩ (.cons ru .nil), ⟨_, hT2, rfl, _, rfl⟩⟩
    have I1 : Inv X pins σ (upd H sh.heap.objs.size (.tup [.int (i : Nat), x])) { sh with heap := hp2, toks := tk + 1 } :=
      I.turnedNew (ch := [e, it]) (fun b ob hb q => (sb.2 b (fun z => hb (by simp [z]))).trans (kp b ob (fun z => hb (by simp [z])) (fun z => hb (by simp [z])) q)) hf (Nat.le_refl _) nw
    refine ⟨.ref sh.heap.objs.size, _, I1, rfl, ⟨_, x, rfl, I.hok.fresh (Nat.le_refl _), rfl, fun ys hy => by rw [I.tuple_inj hy hq]; exact hx⟩, ⟨⟨y, ?_⟩, hst.1.at fun ob q => (sb.2 it (Ne.symm hn)).trans q, hn⟩, fun b hb => ?_⟩
    · rw [show ((i + 1 : Nat) : Int) = (i : Int) + 1 by omega]
      exact he2
    · have hbl : b < sh.heap.objs.size := by
        have eb : b = e ∨ b = it := by simpa using hb
        rcases eb with rfl | rfl
        · exact hel
        · exact hil
      rw [upd_ne (Nat.ne_of_lt hbl)]
      exact (hf b hb).1
  done := by
    intro X hP hw hK hc i pins sh σ H E I hf st hg
    subst hP hw hK
    obtain ⟨⟨old, he⟩, hi, hn⟩ := st
    obtain ⟨xs, hq, hx⟩ := hg
    obtain ⟨its, rv, pt, _⟩ := I.tuple hq
    obtain ⟨g0, g1, g2, g3, g4, g5⟩ := hf it (by simp)
    have ht : sh.heap.IsTuple a its.toArray := by
      obtain ⟨ob, q1, q2, q3, q4⟩ := pt
      exact ⟨ob, q1, q2, q3, q4⟩
    have hll := rv.length
    exact next_enumT_end (I.ok.hd hc) he hi ht (by simp; omega) fun hp eb => ⟨rfl, I.turned (t' := sh.toks) (fun b ob hb q => eb b ob hb q) g0 g1 g3 g4 g5⟩
  self := fun A i sh Q E st hyp => by
    obtain ⟨⟨_, he⟩, _⟩ := st
    exact wpAny_pyIter_enum he hyp
def iEnumT (K : PySem.W.Frag) (ta : TA) : TI := fun σ H R => ta σ H fun vs H1 => ∃ a xs, vs = [.ref a] ∧ SqT K H1 a xs ∧ R (IteT K a) H1
theorem pi_enumT {X : Cx} {e : Expr} {ta : TA} {p pos tpos : Pos} {elts : List Expr} {kk : Nat} (hg : Gl X "enumerate") (hm : X.mg "enumerate" = none) (ha : PA X [e] ta) (hs : starEach [e] X.env = [(false, eval e X.env)] := by rfl) :
    PI X (.Tuple elts kk tpos) (.Call (.Name "enumerate" p) [e] [] pos) (iEnumT X.K ta) := by
  refine ⟨fun pins sh σ H R I hyp => ?_⟩
  refine Call_ (ld_blt I hg hm boot_enumerate (PyProof.Rows.callWith_type1 (thn (ha.run pos pins sh σ H _ I hyp) fun us s1 ⟨vs, H1, I1, r1, q1⟩ => ?_) hs rfl))
  obtain ⟨a, xs, ex, hq, qq⟩ := q1
  subst ex
  cases r1 with
  | cons rr rs =>
    cases rs
    cases rr
    obtain ⟨its, rv, pt, _⟩ := I1.tuple hq
    have ht : s1.heap.IsTuple a its.toArray := by
      obtain ⟨ob, q1, q2, q3, q4⟩ := pt
      exact ⟨ob, q1, q2, q3, q4⟩
    refine call_enumT ht fun hp he hi hsz kp => wpAny_pyIter_enum he ?_
    have I2 : Inv X pins σ H1 { s1 with heap := hp } := I1.kept (t' := s1.toks) kp
    refine ⟨s1.heap.objs.size + 1, [s1.heap.objs.size + 1, s1.heap.objs.size], _, _, H1, rfl, I2, turn_enumT a (s1.heap.objs.size + 1) s1.heap.objs.size, ⟨⟨.none, he⟩, hi, Nat.succ_ne_self _⟩, fun b hb => ?_, qq⟩
    have hle : s1.heap.objs.size ≤ b := by
      have eb : b = s1.heap.objs.size + 1 ∨ b = s1.heap.objs.size := by simpa using hb
      rcases eb with zz | zz
      · subst zz; exact Nat.le_succ _
      · subst zz; exact Nat.le_refl _
    exact I1.fpOk hle (I1.hok.fresh hle)
def enumA : List D → Option (List D)
  | [.list ds] => some (enumL ds)
  | [.tuple ds] => some (enumL ds)
  | _ => none
theorem walk_enumT {K : Fr} {G : Hp} {a : Addr} {ds : List D} (ha : Dq K G (.ref a) (.tuple ds)) : WalkD K (IteT K a) G (enumL ds) := by
  cases ha with
  | tup hs a1 =>
    rename_i us
    have l1 := a1.length
    have sq1 : ∀ G' H, Same G G' → Same G' H → SqT K H a us := fun G' H s1 s2 => SqT_mono (s1.trans s2) hs
    refine ⟨fun i G' H s1 s2 hi => ?_, fun i G' H s1 s2 hi => ?_, fun i G' H v H' d s1 s2 hd hy => ?_⟩
    · rw [enumL_length] at hi
      exact ⟨us, us[i]'(by omega), sq1 G' H s1 s2, by simp⟩
    · rw [enumL_length] at hi
      exact ⟨us, sq1 G' H s1 s2, by omega⟩
    · obtain ⟨T, x, rfl, hT, rfl, f1⟩ := hy
      obtain ⟨dx, e1, rfl⟩ := enumL_get hd
      refine ⟨_, Gr.new s2 hT, .tup (SqT.of upd_same) ?_⟩
      have gg := (Gr.new (o := .tup [.int (i : Nat), x]) s2 hT).gg
      exact .cons (.int _) (.cons (Dq_mono (s1.trans gg) (a1.idx e1 (f1 us (sq1 G' H s1 s2)))) .nil)
theorem qi_enumA {X : Cx} {e : Expr} {p pos : Pos} {m : M (List D)} {elts : List Expr} {kk : Nat} {tpos : Pos} (hm : X.mg "enumerate" = none) (ha : QA X [e] m) (hg : Gl X "enumerate" := by rfl) (hs : starEach [e] X.env = [(false, eval e X.env)] := by rfl) :
    QI X (.Tuple elts kk tpos) (.Call (.Name "enumerate" p) [e] [] pos) (iApp enumA m) := by
  refine PI.imp (PI.or (pi_enum hg hm ha hs) (pi_enumT hg hm ha hs)) fun σ H Q h => ?_
  obtain ⟨R, G, ρ, ds, ρ', rp, e, k⟩ := h
  obtain ⟨xs, h1, h2⟩ := iApp_some e
  unfold enumA at h2
  split at h2
  · cases h2
    refine .inl ⟨R, G, ρ, _, _, rp, h1, fun G1 H1 v1 s1 r1 d1 => ?_⟩
    cases d1 with
    | cons da dr =>
      cases dr
      cases id da with
      | lst ha1 _ => exact ⟨_, _, rfl, SqL.of (r1.subG _ _ ha1), k G1 H1 _ s1 r1 (walk_enum da)⟩
  · cases h2
    refine .inr ⟨R, G, ρ, _, _, rp, h1, fun G1 H1 v1 s1 r1 d1 => ?_⟩
    cases d1 with
    | cons da dr =>
      cases dr
      cases id da with
      | tup ha1 _ => exact ⟨_, _, rfl, SqT_mono r1.subG ha1, k G1 H1 _ s1 r1 (walk_enumT da)⟩
  · cases h2
/-! ### an empty tuple ahead or behind -/
theorem cat_none {pr : Program} {wd : World} {Ar : Around} {E : Value → Shared → Prop} {sh : Shared} {t b : Addr} {ws : List Value} {Q : Value → Shared → Prop} (ht : IsTup sh.heap t ([] : List Value).toArray) (hb : IsTup sh.heap b ws.toArray) (hyp : Q (.ref b) sh) :
    wpAny (model pr wd) Ar (binaryOp .Add (.ref t) (.ref b)) Q E sh := by
  obtain ⟨⟨c1, d1, da1, sl1⟩, ho1, hc1, n1, hd1⟩ := id ht
  obtain ⟨⟨c2, d2, da2, sl2⟩, ho2, hc2, n2, hd2⟩ := id hb
  simp only at hc1 hd1 hc2 hd2
  subst hc1 hd1 hc2 hd2
  exact concat_meets ⟨_, ho1, rfl⟩ ⟨_, ho2, rfl⟩ noFill_tuple_add seq_tuple_add PySem.F.slot_tuple_add PySem.F.entry_tuple_add (PySem.F.args_tuple_add_2 _ _) (tuple_addW0 t b _ ws.toArray n1 n2 d1 d2 sl1 sl2 rfl) ⟨ho1, ho2, hyp⟩
def rCat0 (K : Fr) : R2 := fun x y H Q => ∃ a b ys, x = .ref a ∧ y = .ref b ∧ SqT K H a [] ∧ SqT K H b ys ∧ Q (.ref b) H
theorem op_cat0 {X : Cx} : OpR X (binaryOp .Add) (rCat0 X.K) := by
  intro pins sh σ H x y v u Q I rx ry hyp
  obtain ⟨a, b, ys, rfl, rfl, ha, hb, q⟩ := hyp
  cases rx
  cases ry
  obtain ⟨i1, r1, p1, _⟩ := I.tuple ha
  obtain ⟨i2, r2, p2, _⟩ := I.tuple hb
  cases r1
  exact cat_none p1 p2 ⟨.ref b, H, I, rfl, q⟩
def dAddT (x y : D) : Option D := match x, y with
  | .tuple [], .tuple b => some (.tuple b)
  | .tuple (a :: r), .tuple [] => if r.length + 1 ≤ 1000000 then some (.tuple (a :: r)) else none
  | _, _ => dAdd x y
abbrev rAddT (K : Fr) : R2 := fun x y H Q => rCat0 K x y H Q ∨ rAddA K x y H Q
theorem d_addT {K : Fr} : OpD K (rAddT K) dAddT := by
  intro G H x y dx dy d Q s hx hy e k
  unfold dAddT at e
  split at e
  · cases e
    cases hx with
    | tup h1 a1 =>
      cases a1
      cases hy with
      | tup h2 a2 => exact .inl ⟨_, _, _, rfl, rfl, SqT_mono s h1, SqT_mono s h2, k G H _ (Gr.refl s) (.tup h2 a2)⟩
  · split at e
    · rename_i hl
      cases e
      cases hx with
      | tup h1 a1 =>
        cases hy with
        | tup h2 a2 =>
          cases a2
          have l1 := a1.length
          refine .inr (.inr (.inr (.inl ⟨_, _, _, _, rfl, rfl, SqT_mono s h1, SqT_mono s h2, fun z => ?_, ?_, fun _ => k G H _ (Gr.refl s) (.tup h1 a1), fun z => absurd rfl z⟩)))
          · rw [z] at l1
            simp at l1
          · rw [l1]
            exact size_of (by simpa using hl)
    · cases e
  · exact .inr (d_add G H x y dx dy d Q s hx hy e k)
theorem qe_addT {X : Cx} {a b : Expr} {pos : Pos} {m n : M D} (ha : QE X a m) (hb : QE X b n) : QE X (.BinOp a .Add b pos) (eOp2 dAddT m n) := qe_op (op_cat0.or op_addA) d_addT ha hb
/-! ### range with a step -/
def rng3 : List D → Option (List D)
  | [.int i, .int j, .int c] => if c ≠ 0 ∧ c.natAbs < 1073741824 ∧ Builtin.Range.small i j c = true ∧ 0 ≤ Builtin.Range.rangeSize i j c then some ((List.range (Builtin.Range.rangeSize i j c).toNat).map fun (k : Nat) => .int (i + (k : Nat) * c)) else none
  | _ => none
theorem walk_range3 {K : Fr} {G : Hp} {lo c : Int} {n : Nat} : WalkD K (Itc lo c n) G ((List.range n).map fun (k : Nat) => .int (lo + (k : Nat) * c)) := by
  have hl : ((List.range n).map fun (k : Nat) => PyData.int (lo + (k : Nat) * c)).length = n := by simp
  refine ⟨fun i G' H s1 s2 hi => by rw [hl] at hi; exact hi, fun i G' H s1 s2 hi => by rw [hl] at hi; exact hi, fun i G' H v H' d s1 s2 hd hy => ?_⟩
  obtain ⟨rfl, rfl⟩ := hy
  refine ⟨G', Gr.refl s2, ?_⟩
  have hi : i < n := by
    have := (List.getElem?_eq_some_iff.mp hd).1
    rw [hl] at this
    exact this
  have e : d = .int (lo + (i : Nat) * c) := by
    simp [hi] at hd
    exact hd.symm
  subst e
  exact .int _
theorem qi_range3 {X : Cx} {tg a b c : Expr} {p pos : Pos} {m : M (List D)} (hm : X.mg "range" = none) (ha : QA X [a, b, c] m) (hg : Gl X "range" := by rfl)
    (hs : starEach [a, b, c] X.env = (false, eval a X.env) :: starEach [b, c] X.env := by rfl) (hpl : (backTo pos (starEach [b, c] X.env)).any (·.1) = false := by rfl) : QI X tg (.Call (.Name "range" p) [a, b, c] [] pos) (iApp rng3 m) := by
  refine PI.imp (pi_range3 hg hm ha hs hpl) fun σ H Q w => ?_
  obtain ⟨R, G, ρ, ds, ρ', rp, e, k⟩ := w
  obtain ⟨xs, h1, h2⟩ := iApp_some e
  refine ⟨R, G, ρ, _, _, rp, h1, fun G1 H1 v1 s1 r1 d1 => ?_⟩
  unfold rng3 at h2
  split at h2
  · split at h2
    · rename_i q
      cases h2
      cases d1 with
      | cons da dr =>
        cases da
        cases dr with
        | cons db dr =>
          cases db
          cases dr with
          | cons dc dr =>
            cases dc
            cases dr
            exact ⟨_, _, _, _, rfl, ⟨q.1, q.2.1, q.2.2.1, (Int.toNat_of_nonneg q.2.2.2).symm⟩, k G1 H1 _ s1 r1 walk_range3⟩
    · cases h2
  · cases h2
end QL
set_option Elab.async false
set_option linter.all false
set_option maxRecDepth 100000
set_option maxHeartbeats 1000000
namespace QL
open PySem PySem.Spec PyProof.Rows L2 RZ
/-! ### zip of two or three sequences of any kind: true a list, false a tuple -/
def SqK (K : Fr) (b : Bool) (H : Hp) (a : Addr) (xs : List V) : Prop := match b with
  | true => SqL K H a xs
  | false => SqT K H a xs
def HIt (b : Bool) (h : Heap) (it l : Addr) (i : Nat) : Prop := match b with
  | true => h.IsListIter it l i
  | false => h.IsTupleIter it l i
def HSq (b : Bool) (h : Heap) (l : Addr) (items : Array Value) : Prop := match b with
  | true => h.IsList l items
  | false => h.IsTuple l items
def itObj (b : Bool) (l : Addr) : Obj := match b with
  | true => { cls := .type "list_iterator", data := .fields #[.ref l, .int 0 0] }
  | false => { cls := .type "tuple_iterator", data := .fields #[.ref l, .int 0 0] }
theorem drwK {pr : Program} {wd : World} {Ar : Around} (hh : Ar.handled = none) (b : Bool) (j t : Addr) (hjt : t ≠ j) (vs : Array Value) :
    Draws pr wd Ar j [j, t] vs.size (fun k y => vs[k]? = some y) (fun k hp => HIt b hp j t k ∧ HSq b hp t vs) := by
  cases b
  · exact Draws.tuple hh j t hjt vs
  · exact Draws.list hh j t hjt vs
theorem begK (b : Bool) (l : Addr) (items : Array Value) : Begins (.ref l) (itObj b l) fun h => HSq b h l items := by
  cases b
  · exact begins_tuple l items
  · exact begins_list l items
theorem HIt.at {b : Bool} {h h' : Heap} {it l : Addr} {i : Nat} (x : HIt b h it l i) (k : ∀ o, h.get? it = some o → h'.get? it = some o) : HIt b h' it l i := by
  cases b
  · exact Heap.IsTupleIter.at x k
  · exact Heap.IsListIter.at x k
theorem HIt.obj {b : Bool} {h : Heap} {it l : Addr} {i : Nat} (x : HIt b h it l i) : ∃ o, h.get? it = some o ∧ ∀ v, o.data ≠ .cell v := by
  cases b
  · obtain ⟨o, e, _, d⟩ := x
    exact ⟨o, e, fun v q => by rw [d] at q; cases q⟩
  · obtain ⟨o, e, _, d⟩ := x
    exact ⟨o, e, fun v q => by rw [d] at q; cases q⟩
theorem HIt.new {b : Bool} {h : Heap} {it l : Addr} (x : h.get? it = some (itObj b l)) : HIt b h it l 0 := by
  cases b
  · exact ⟨_, x, rfl, rfl⟩
  · exact ⟨_, x, rfl, rfl⟩
theorem inv_seq {X : Cx} {pins : List (Addr × Obj)} {σ : L2.St} {H : Hp} {s : Shared} {b : Bool} {a : Addr} {xs : List V} (I : Inv X pins σ H s) (h : SqK X.K b H a xs) : ∃ its : List Value, Vals xs its ∧ HSq b s.heap a its.toArray ∧ a < s.heap.objs.size := by
  cases b
  · obtain ⟨its, rv, p, _⟩ := I.tuple h
    obtain ⟨o1, ho1, _⟩ := id p
    exact ⟨its, rv, p, Heap.lt_size ho1⟩
  · obtain ⟨its, rv, p, _⟩ := I.list h
    exact ⟨its, rv, p.isList, p.lt⟩
/-! two -/
def Itz2 (K : Fr) (b1 b2 : Bool) (a1 a2 : Addr) (xs ys : List V) : It :=
  ⟨fun i H => SqK K b1 H a1 xs ∧ SqK K b2 H a2 ys ∧ i < xs.length ∧ i < ys.length,
    fun i H v H' => ∃ T x y, v = .ref T ∧ H T = none ∧ H' = upd H T (.tup [x, y]) ∧ xs[i]? = some x ∧ ys[i]? = some y,
    fun i H => SqK K b1 H a1 xs ∧ SqK K b2 H a2 ys ∧ (xs.length ≤ i ∨ ys.length ≤ i)⟩
theorem turn_zip2 {P : Program} {w : World} {K : Fr} {elts : List Expr} {kk : Nat} {tpos : Pos} {b1 b2 : Bool} {a1 a2 z TI TO i1 i2 : Addr} {xs ys : List V} (D : ZipSep2 z TI TO i1 i2 [i1, a1] [i2, a2]) (n1 : a1 ≠ i1) (n2 : a2 ≠ i2) :
    Turn P w K (.Tuple elts kk tpos) (Itz2 K b1 b2 a1 a2 xs ys) [z, TI, TO, i1, i2] z (fun i h => IsZip h z TI TO .none ∧ IsTupOf2 h TI (.ref i1) (.ref i2) ∧ (∃ x y, IsTupOf2 h TO x y) ∧ HIt b1 h i1 a1 i ∧ HIt b2 h i2 a2 i ∧ i ≤ xs.length ∧ i ≤ ys.length) where
  mem := by simp
  obj := fun i h st c hc => by
    obtain ⟨hz, hTI, ⟨x, y, hTO⟩, h1, h2, _⟩ := st
    have e' : c = z ∨ c = TI ∨ c = TO ∨ c = i1 ∨ c = i2 := by simpa using hc
    rcases e' with q | q | q | q | q
    · rw [q]; exact ⟨_, hz, fun v q => nomatch q⟩
    · rw [q]; exact ⟨_, hTI, fun v q => nomatch q⟩
    · rw [q]; exact ⟨_, hTO, fun v q => nomatch q⟩
    · rw [q]; exact h1.obj
    · rw [q]; exact h2.obj
  keep := fun i h h' st k => by
    obtain ⟨hz, hTI, ⟨x, y, hTO⟩, h1, h2, l⟩ := st
    exact ⟨k z (by simp) _ hz, k TI (by simp) _ hTI, ⟨x, y, k TO (by simp) _ hTO⟩, h1.at fun o q => k i1 (by simp) o q, h2.at fun o q => k i2 (by simp) o q, l⟩
  item := by
    intro X hP hw hK hc i pins s σ H E I hf st hg
    subst hP hw hK
    obtain ⟨hz, hTI, ⟨x0, y0, hTO⟩, h1, h2, l1, l2⟩ := st
    obtain ⟨hqx, hqy, hx, hy⟩ := hg
    obtain ⟨its, rv, p, _⟩ := inv_seq I hqx
    obtain ⟨its2, rv2, p2, _⟩ := inv_seq I hqy
    obtain ⟨u, hu, ru⟩ := rv.get (List.getElem?_eq_getElem hx)
    obtain ⟨u2, hu2, ru2⟩ := rv2.get (List.getElem?_eq_getElem hy)
    have ll1 := rv.length
    have ll2 := rv2.length
    have hzl : z < s.heap.objs.size := Heap.lt_size hz
    have hhd : X.A.in1.handled = none := I.ok.hd hc
    refine wpAny_pyNext_zipD2_item D (drwK hhd b1 i1 a1 n1 its.toArray) (drwK hhd b2 i2 a2 n2 its2.toArray) hz hTI hTO ⟨h1, p⟩ ⟨h2, p2⟩ (by simp; omega) (by simp; omega) fun y1 y2 h' tk e1 e2 z' TO' h1' h2' hT hsz hk => ?_
    have ey1 : y1 = u := by
      have : its.toArray[i]? = some u := by simpa using hu
      rw [this] at e1
      exact (Option.some.inj e1).symm
    have ey2 : y2 = u2 := by
      have : its2.toArray[i]? = some u2 := by simpa using hu2
      rw [this] at e2
      exact (Option.some.inj e2).symm
    subst ey1 ey2
    refine ⟨_, rfl, wpAny_letOwnedTupleGo_zip (s := { s with heap := h', toks := tk }) z' fun h'' z'' sb => ?_⟩
    have hT2 : h''.get? s.heap.objs.size = some { cls := .type "tuple", data := .seq #[y1, y2] } := (sb.2 _ (Nat.ne_of_gt hzl)).trans hT
    have new : ObjOk X.prog X.w (upd H s.heap.objs.size (.tup [xs[i], ys[i]])) h'' s.heap.objs.size (.tup [xs[i], ys[i]]) :=
      ⟨by show 2 ≤ sizeLine; decide, [y1, y2], .cons ru (.cons ru2 .nil), ⟨_, hT2, rfl, _, rfl⟩⟩
    have I1 : Inv X pins σ (upd H s.heap.objs.size (.tup [xs[i], ys[i]])) { s with heap := h'', toks := tk } :=
      I.turnedNew (t' := tk) (ch := [z, TI, TO, i1, i2]) (fun c o hb q => (sb.2 c (fun q' => hb (by simp [q']))).trans (hk c o (fun q' => hb (by simp [q'])) (fun q' => hb (by simp [q'])) (fun q' => hb (by simp [q'])) (fun q' => hb (by simp [q'])) q)) hf (Nat.le_refl _) new
    refine ⟨.ref s.heap.objs.size, _, I1, rfl, ⟨_, xs[i], ys[i], rfl, I.hok.fresh (Nat.le_refl _), rfl, List.getElem?_eq_getElem hx, List.getElem?_eq_getElem hy⟩, ⟨z'', ?_, ⟨y1, y2, ?_⟩, ?_, ?_, hx, hy⟩, fun c hcm => ?_⟩
    · exact (sb.2 _ D.TIz).trans (hk _ _ D.TIz D.TITO D.TIi1 D.TIi2 hTI)
    · exact (sb.2 _ D.TOz).trans TO'
    · exact h1'.1.at fun o q => (sb.2 _ D.zi1.symm).trans q
    · exact h2'.1.at fun o q => (sb.2 _ D.zi2.symm).trans q
    · have hlt : c < s.heap.objs.size := by
        have e' : c = z ∨ c = TI ∨ c = TO ∨ c = i1 ∨ c = i2 := by simpa using hcm
        rcases e' with q | q | q | q | q
        · rw [q]; exact hzl
        · rw [q]; exact Heap.lt_size hTI
        · rw [q]; exact Heap.lt_size hTO
        · rw [q]; obtain ⟨_, e1, _⟩ := h1.obj; exact Heap.lt_size e1
        · rw [q]; obtain ⟨_, e2, _⟩ := h2.obj; exact Heap.lt_size e2
      rw [upd_ne (Nat.ne_of_lt hlt)]
      exact (hf c hcm).1
  done := by
    intro X hP hw hK hc i pins s σ H E I hf st hg
    subst hP hw hK
    obtain ⟨hz, hTI, ⟨x0, y0, hTO⟩, h1, h2, l1, l2⟩ := st
    obtain ⟨hqx, hqy, hend⟩ := hg
    obtain ⟨its, rv, p, _⟩ := inv_seq I hqx
    obtain ⟨its2, rv2, p2, _⟩ := inv_seq I hqy
    have ll1 := rv.length
    have ll2 := rv2.length
    have hhd : X.A.in1.handled = none := I.ok.hd hc
    refine wpAny_pyNext_zipD2_end D (drwK hhd b1 i1 a1 n1 its.toArray) (drwK hhd b2 i2 a2 n2 its2.toArray) hz hTI hTO ⟨h1, p⟩ ⟨h2, p2⟩ (by simp; omega) (by simp; omega) (by simp; omega) fun h' tk hk => ⟨rfl, I.turnedL (t' := tk) (ch := [z, TI, TO, i1, i2]) (fun c o hb q =>
      hk c o (fun q' => hb (by simp [q'])) (fun q' => hb (by simp [q'])) (fun q' => hb (by simp [q'])) (fun q' => hb (by simp [q'])) q) hf⟩
  self := fun A i s Q E st h => wpAny_pyIter_zip st.1 h
theorem neN' {a b : Nat} (h : a < b ∨ b < a) : a ≠ b := by omega
theorem notIn2 {x a b : Nat} (h1 : x ≠ a) (h2 : x ≠ b) : x ∉ [a, b] := by
  intro h
  cases h with
  | head => exact h1 rfl
  | tail _ h =>
    cases h with
    | head => exact h2 rfl
    | tail _ h => cases h
theorem sep2 (n a b : Nat) (ha : a < n) (hb : b < n) : ZipSep2 (n + 4) (n + 2) (n + 3) n (n + 1) [n, a] [n + 1, b] := by
  constructor <;> first | exact List.mem_cons_self | (refine neN' ?_; omega) | (refine notIn2 (neN' ?_) (neN' ?_) <;> omega)
def iZip2 (K : Fr) (ta : TA) : TI := fun σ H R => ta σ H fun vs H1 => ∃ b1 b2 a b xs ys, vs = [.ref a, .ref b] ∧ SqK K b1 H1 a xs ∧ SqK K b2 H1 b ys ∧ R (Itz2 K b1 b2 a b xs ys) H1
theorem pi_zip2 {X : Cx} {e e2 : Expr} {ta : TA} {p pos tpos : Pos} {elts : List Expr} {kk : Nat} (hg : Gl X "zip") (hm : X.mg "zip" = none) (ha : PA X [e, e2] ta)
    (hs : starEach [e, e2] X.env = (false, eval e X.env) :: starEach [e2] X.env := by rfl) (hpl : (backTo pos (starEach [e2] X.env)).any (·.1) = false := by rfl) :
    PI X (.Tuple elts kk tpos) (.Call (.Name "zip" p) [e, e2] [] pos) (iZip2 X.K ta) := by
  refine ⟨fun pins s σ H R I h => ?_⟩
  refine Call_ (ld_blt I hg hm PyProof.Rows.boot_zip (PyProof.Rows.callWith_type1 (thn (ha.run pos pins s σ H _ I h) fun us s1 ⟨vs, H1, I1, r1, q1⟩ => ?_) hs hpl))
  obtain ⟨b1, b2, a, b, xs, ys, ex, hqx, hqy, q⟩ := q1
  subst ex
  cases r1 with
  | cons r rr =>
    cases rr with
    | cons r' rr =>
      cases rr
      cases r
      cases r'
      obtain ⟨its, rv, p1, lt1⟩ := inv_seq I1 hqx
      obtain ⟨its2, rv2, p2, lt2⟩ := inv_seq I1 hqy
      refine zip_begins2 (begK b1 a its.toArray) (begK b2 b its2.toArray) p1 p2 fun h' hz hTI hTO h1 h2 hsz hk => wpAny_pyIter_zip hz ?_
      have I2 : Inv X pins σ H1 { s1 with heap := h' } := I1.kept (t' := s1.toks) hk
      refine ⟨s1.heap.objs.size + 4, [s1.heap.objs.size + 4, s1.heap.objs.size + 2, s1.heap.objs.size + 3, s1.heap.objs.size, s1.heap.objs.size + 1], _, _, H1, rfl, I2, turn_zip2 (sep2 s1.heap.objs.size a b lt1 lt2) (Nat.ne_of_lt lt1) (Nat.ne_of_lt (Nat.lt_succ_of_lt lt2)), ⟨hz, hTI, ⟨_, _, hTO⟩, HIt.new h1, HIt.new h2, Nat.zero_le _, Nat.zero_le _⟩, fun c hcm => ?_, q⟩
      have e' : c = s1.heap.objs.size + 4 ∨ c = s1.heap.objs.size + 2 ∨ c = s1.heap.objs.size + 3 ∨ c = s1.heap.objs.size ∨ c = s1.heap.objs.size + 1 := by simpa using hcm
      have hle : s1.heap.objs.size ≤ c := by
        rcases e' with z | z | z | z | z
        · rw [z]; exact Nat.le_add_right _ _
        · rw [z]; exact Nat.le_add_right _ _
        · rw [z]; exact Nat.le_add_right _ _
        · rw [z]; exact Nat.le_refl _
        · rw [z]; exact Nat.le_add_right _ _
      exact I1.fpOk hle (I1.hok.fresh hle)
/-- a sequence of data -/
def seqB : D → Option (Bool × List D)
  | .list ds => some (true, ds)
  | .tuple ds => some (false, ds)
  | _ => none
theorem dq_seq {K : Fr} {G : Hp} {v : V} {d : D} {b : Bool} {ds : List D} (h : Dq K G v d) (e : seqB d = some (b, ds)) : ∃ a xs, v = .ref a ∧ (∀ H, Same G H → SqK K b H a xs) ∧ DqAll K G xs ds := by
  cases h with
  | lst ha hs => cases e; exact ⟨_, _, rfl, fun H s => SqL.of (s _ _ ha), hs⟩
  | tup ha hs => cases e; exact ⟨_, _, rfl, fun H s => SqT_mono s ha, hs⟩
  | _ => cases e
def zipM : List D → Option (List D)
  | [x, y] => (seqB x).bind fun p => (seqB y).map fun q => zipL p.2 q.2
  | _ => none
theorem walk_zip2 {K : Fr} {G : Hp} {a b : Addr} {b1 b2 : Bool} {vs ws : List V} {xs ys : List D} (ha : ∀ H, Same G H → SqK K b1 H a vs) (hb : ∀ H, Same G H → SqK K b2 H b ws) (da : DqAll K G vs xs) (db : DqAll K G ws ys) : WalkD K (Itz2 K b1 b2 a b vs ws) G (zipL xs ys) := by
  have l1 := da.length
  have l2 := db.length
  refine ⟨fun i G' H s1 s2 hi => ?_, fun i G' H s1 s2 hi => ?_, fun i G' H v H' d s1 s2 hd hy => ?_⟩
  · rw [zipL_length] at hi
    exact ⟨ha H (s1.trans s2), hb H (s1.trans s2), by omega, by omega⟩
  · rw [zipL_length] at hi
    exact ⟨ha H (s1.trans s2), hb H (s1.trans s2), by omega⟩
  · obtain ⟨T, x, y, rfl, hT, rfl, f1, f2⟩ := hy
    obtain ⟨dx, dy, e1, e2, rfl⟩ := zipL_get hd
    refine ⟨_, Gr.new s2 hT, .tup (SqT.of upd_same) ?_⟩
    have gg := (Gr.new (o := .tup [x, y]) s2 hT).gg
    exact .cons (Dq_mono (s1.trans gg) (da.idx e1 f1)) (.cons (Dq_mono (s1.trans gg) (db.idx e2 f2)) .nil)
theorem qi_zipM {X : Cx} {e e2 : Expr} {p pos tpos : Pos} {m : M (List D)} {elts : List Expr} {kk : Nat} (hm : X.mg "zip" = none) (ha : QA X [e, e2] m) (hg : Gl X "zip" := by rfl)
    (hs : starEach [e, e2] X.env = (false, eval e X.env) :: starEach [e2] X.env := by rfl) (hpl : (backTo pos (starEach [e2] X.env)).any (·.1) = false := by rfl) :
    QI X (.Tuple elts kk tpos) (.Call (.Name "zip" p) [e, e2] [] pos) (iApp zipM m) := by
  refine PI.imp (pi_zip2 hg hm ha hs hpl) fun σ H Q h => ?_
  obtain ⟨R, G, ρ, ds, ρ', rp, e, k⟩ := h
  obtain ⟨xs, h1, h2⟩ := iApp_some e
  refine ⟨R, G, ρ, _, _, rp, h1, fun G1 H1 v1 s1 r1 d1 => ?_⟩
  unfold zipM at h2
  split at h2
  · rw [Option.bind_eq_some_iff] at h2
    obtain ⟨⟨b1, xs1⟩, e1, h2⟩ := h2
    rw [Option.map_eq_some_iff] at h2
    obtain ⟨⟨b2, xs2⟩, e2, h2⟩ := h2
    cases h2
    cases d1 with
    | cons da dr =>
      cases dr with
      | cons db dr =>
        cases dr
        obtain ⟨a, vs, rfl, ha, hva⟩ := dq_seq da e1
        obtain ⟨b, ws, rfl, hb, hvb⟩ := dq_seq db e2
        exact ⟨b1, b2, a, b, vs, ws, rfl, ha H1 r1.subG, hb H1 r1.subG, k G1 H1 _ s1 r1 (walk_zip2 ha hb hva hvb)⟩
  · cases h2
end QL
set_option Elab.async false
set_option linter.all false
set_option maxRecDepth 100000
set_option maxHeartbeats 1000000
namespace QL
open PySem PySem.Spec PyProof.Rows L2 RZ
/-! three -/
def Itz3 (K : Fr) (b1 b2 b3 : Bool) (a1 a2 a3 : Addr) (xs ys zs : List V) : It :=
  ⟨fun i H => SqK K b1 H a1 xs ∧ SqK K b2 H a2 ys ∧ SqK K b3 H a3 zs ∧ i < xs.length ∧ i < ys.length ∧ i < zs.length,
    fun i H v H' => ∃ T x y w, v = .ref T ∧ H T = none ∧ H' = upd H T (.tup [x, y, w]) ∧ xs[i]? = some x ∧ ys[i]? = some y ∧ zs[i]? = some w,
    fun i H => SqK K b1 H a1 xs ∧ SqK K b2 H a2 ys ∧ SqK K b3 H a3 zs ∧ (xs.length ≤ i ∨ ys.length ≤ i ∨ zs.length ≤ i)⟩
theorem turn_zip3 {P : Program} {w : World} {K : Fr} {elts : List Expr} {kk : Nat} {tpos : Pos} {b1 b2 b3 : Bool} {a1 a2 a3 z TI TO i1 i2 i3 : Addr} {xs ys zs : List V} (D : ZipSep3 z TI TO i1 i2 i3 [i1, a1] [i2, a2] [i3, a3]) (n1 : a1 ≠ i1) (n2 : a2 ≠ i2) (n3 : a3 ≠ i3) :
    Turn P w K (.Tuple elts kk tpos) (Itz3 K b1 b2 b3 a1 a2 a3 xs ys zs) [z, TI, TO, i1, i2, i3] z (fun i h => IsZip h z TI TO .none ∧ IsTupOf3 h TI (.ref i1) (.ref i2) (.ref i3) ∧ (∃ x y w, IsTupOf3 h TO x y w) ∧ HIt b1 h i1 a1 i ∧ HIt b2 h i2 a2 i ∧ HIt b3 h i3 a3 i ∧ i ≤ xs.length ∧ i ≤ ys.length ∧ i ≤ zs.length) where
  mem := by simp
  obj := fun i h st c hc => by
    obtain ⟨hz, hTI, ⟨x, y, w, hTO⟩, h1, h2, h3, _⟩ := st
    have e' : c = z ∨ c = TI ∨ c = TO ∨ c = i1 ∨ c = i2 ∨ c = i3 := by simpa using hc
    rcases e' with q | q | q | q | q | q
    · rw [q]; exact ⟨_, hz, fun v q => nomatch q⟩
    · rw [q]; exact ⟨_, hTI, fun v q => nomatch q⟩
    · rw [q]; exact ⟨_, hTO, fun v q => nomatch q⟩
    · rw [q]; exact h1.obj
    · rw [q]; exact h2.obj
    · rw [q]; exact h3.obj
  keep := fun i h h' st k => by
    obtain ⟨hz, hTI, ⟨x, y, w, hTO⟩, h1, h2, h3, l⟩ := st
    exact ⟨k z (by simp) _ hz, k TI (by simp) _ hTI, ⟨x, y, w, k TO (by simp) _ hTO⟩, h1.at fun o q => k i1 (by simp) o q, h2.at fun o q => k i2 (by simp) o q, h3.at fun o q => k i3 (by simp) o q, l⟩
  item := by
    intro X hP hw hK hc i pins s σ H E I hf st hg
    subst hP hw hK
    obtain ⟨hz, hTI, ⟨x0, y0, w0, hTO⟩, h1, h2, h3, l1, l2, l3⟩ := st
    obtain ⟨hqx, hqy, hqz, hx, hy, hw⟩ := hg
    obtain ⟨its, rv, p, _⟩ := inv_seq I hqx
    obtain ⟨its2, rv2, p2, _⟩ := inv_seq I hqy
    obtain ⟨its3, rv3, p3, _⟩ := inv_seq I hqz
    obtain ⟨u, hu, ru⟩ := rv.get (List.getElem?_eq_getElem hx)
    obtain ⟨u2, hu2, ru2⟩ := rv2.get (List.getElem?_eq_getElem hy)
    obtain ⟨u3, hu3, ru3⟩ := rv3.get (List.getElem?_eq_getElem hw)
    have ll1 := rv.length
    have ll2 := rv2.length
    have ll3 := rv3.length
    have hzl : z < s.heap.objs.size := Heap.lt_size hz
    have hhd : X.A.in1.handled = none := I.ok.hd hc
    refine wpAny_pyNext_zipD3_item D (drwK hhd b1 i1 a1 n1 its.toArray) (drwK hhd b2 i2 a2 n2 its2.toArray) (drwK hhd b3 i3 a3 n3 its3.toArray) hz hTI hTO ⟨h1, p⟩ ⟨h2, p2⟩ ⟨h3, p3⟩ (by simp; omega) (by simp; omega) (by simp; omega) fun y1 y2 y3 h' tk e1 e2 e3 z' TO' h1' h2' h3' hT hsz hk => ?_
    have ey1 : y1 = u := by
      have : its.toArray[i]? = some u := by simpa using hu
      rw [this] at e1
      exact (Option.some.inj e1).symm
    have ey2 : y2 = u2 := by
      have : its2.toArray[i]? = some u2 := by simpa using hu2
      rw [this] at e2
      exact (Option.some.inj e2).symm
    have ey3 : y3 = u3 := by
      have : its3.toArray[i]? = some u3 := by simpa using hu3
      rw [this] at e3
      exact (Option.some.inj e3).symm
    subst ey1 ey2 ey3
    refine ⟨_, rfl, wpAny_letOwnedTupleGo_zip (s := { s with heap := h', toks := tk }) z' fun h'' z'' sb => ?_⟩
    have hT2 : h''.get? s.heap.objs.size = some { cls := .type "tuple", data := .seq #[y1, y2, y3] } := (sb.2 _ (Nat.ne_of_gt hzl)).trans hT
    have new : ObjOk X.prog X.w (upd H s.heap.objs.size (.tup [xs[i], ys[i], zs[i]])) h'' s.heap.objs.size (.tup [xs[i], ys[i], zs[i]]) :=
      ⟨by show 3 ≤ sizeLine; decide, [y1, y2, y3], .cons ru (.cons ru2 (.cons ru3 .nil)), ⟨_, hT2, rfl, _, rfl⟩⟩
    have I1 : Inv X pins σ (upd H s.heap.objs.size (.tup [xs[i], ys[i], zs[i]])) { s with heap := h'', toks := tk } :=
      I.turnedNew (t' := tk) (ch := [z, TI, TO, i1, i2, i3]) (fun c o hb q => (sb.2 c (fun q' => hb (by simp [q']))).trans (hk c o (fun q' => hb (by simp [q'])) (fun q' => hb (by simp [q'])) (fun q' => hb (by simp [q'])) (fun q' => hb (by simp [q'])) (fun q' => hb (by simp [q'])) q)) hf (Nat.le_refl _) new
    refine ⟨.ref s.heap.objs.size, _, I1, rfl, ⟨_, xs[i], ys[i], zs[i], rfl, I.hok.fresh (Nat.le_refl _), rfl, List.getElem?_eq_getElem hx, List.getElem?_eq_getElem hy, List.getElem?_eq_getElem hw⟩, ⟨z'', ?_, ⟨y1, y2, y3, ?_⟩, ?_, ?_, ?_, hx, hy, hw⟩, fun c hcm => ?_⟩
    · exact (sb.2 _ D.TIz).trans (hk _ _ D.TIz D.TITO D.TIi1 D.TIi2 D.TIi3 hTI)
    · exact (sb.2 _ D.TOz).trans TO'
    · exact h1'.1.at fun o q => (sb.2 _ D.zi1.symm).trans q
    · exact h2'.1.at fun o q => (sb.2 _ D.zi2.symm).trans q
    · exact h3'.1.at fun o q => (sb.2 _ D.zi3.symm).trans q
    · have hlt : c < s.heap.objs.size := by
        have e' : c = z ∨ c = TI ∨ c = TO ∨ c = i1 ∨ c = i2 ∨ c = i3 := by simpa using hcm
        rcases e' with q | q | q | q | q | q
        · rw [q]; exact hzl
        · rw [q]; exact Heap.lt_size hTI
        · rw [q]; exact Heap.lt_size hTO
        · rw [q]; obtain ⟨_, e1, _⟩ := h1.obj; exact Heap.lt_size e1
        · rw [q]; obtain ⟨_, e2, _⟩ := h2.obj; exact Heap.lt_size e2
        · rw [q]; obtain ⟨_, e3, _⟩ := h3.obj; exact Heap.lt_size e3
      rw [upd_ne (Nat.ne_of_lt hlt)]
      exact (hf c hcm).1
  done := by
    intro X hP hw hK hc i pins s σ H E I hf st hg
    subst hP hw hK
    obtain ⟨hz, hTI, ⟨x0, y0, w0, hTO⟩, h1, h2, h3, l1, l2, l3⟩ := st
    obtain ⟨hqx, hqy, hqz, hend⟩ := hg
    obtain ⟨its, rv, p, _⟩ := inv_seq I hqx
    obtain ⟨its2, rv2, p2, _⟩ := inv_seq I hqy
    obtain ⟨its3, rv3, p3, _⟩ := inv_seq I hqz
    have ll1 := rv.length
    have ll2 := rv2.length
    have ll3 := rv3.length
    have hhd : X.A.in1.handled = none := I.ok.hd hc
    refine wpAny_pyNext_zipD3_end D (drwK hhd b1 i1 a1 n1 its.toArray) (drwK hhd b2 i2 a2 n2 its2.toArray) (drwK hhd b3 i3 a3 n3 its3.toArray) hz hTI hTO ⟨h1, p⟩ ⟨h2, p2⟩ ⟨h3, p3⟩ (by simp; omega) (by simp; omega) (by simp; omega) (by simp; omega) fun h' tk hk => ⟨rfl, I.turnedL (t' := tk) (ch := [z, TI, TO, i1, i2, i3]) (fun c o hb q =>
      hk c o (fun q' => hb (by simp [q'])) (fun q' => hb (by simp [q'])) (fun q' => hb (by simp [q'])) (fun q' => hb (by simp [q'])) (fun q' => hb (by simp [q'])) q) hf⟩
  self := fun A i s Q E st h => wpAny_pyIter_zip st.1 h
theorem sep3 (n a b c : Nat) (ha : a < n) (hb : b < n) (hc : c < n) : ZipSep3 (n + 5) (n + 3) (n + 4) n (n + 1) (n + 2) [n, a] [n + 1, b] [n + 2, c] := by
  constructor <;> first | exact List.mem_cons_self | (refine neN' ?_; omega) | (refine notIn2 (neN' ?_) (neN' ?_) <;> omega)
def iZip3 (K : Fr) (ta : TA) : TI := fun σ H R => ta σ H fun vs H1 => ∃ b1 b2 b3 a b c xs ys zs, vs = [.ref a, .ref b, .ref c] ∧ SqK K b1 H1 a xs ∧ SqK K b2 H1 b ys ∧ SqK K b3 H1 c zs ∧ R (Itz3 K b1 b2 b3 a b c xs ys zs) H1
theorem pi_zip3 {X : Cx} {e e2 e3 : Expr} {ta : TA} {p pos tpos : Pos} {elts : List Expr} {kk : Nat} (hg : Gl X "zip") (hm : X.mg "zip" = none) (ha : PA X [e, e2, e3] ta)
    (hs : starEach [e, e2, e3] X.env = (false, eval e X.env) :: starEach [e2, e3] X.env := by rfl) (hpl : (backTo pos (starEach [e2, e3] X.env)).any (·.1) = false := by rfl) :
    PI X (.Tuple elts kk tpos) (.Call (.Name "zip" p) [e, e2, e3] [] pos) (iZip3 X.K ta) := by
  refine ⟨fun pins s σ H R I h => ?_⟩
  refine Call_ (ld_blt I hg hm PyProof.Rows.boot_zip (PyProof.Rows.callWith_type1 (thn (ha.run pos pins s σ H _ I h) fun us s1 ⟨vs, H1, I1, r1, q1⟩ => ?_) hs hpl))
  obtain ⟨b1, b2, b3, a, b, c, xs, ys, zs, ex, hqx, hqy, hqz, q⟩ := q1
  subst ex
  cases r1 with
  | cons r rr =>
    cases rr with
    | cons r' rr =>
      cases rr with
      | cons r'' rr =>
        cases rr
        cases r
        cases r'
        cases r''
        obtain ⟨its, rv, p1, lt1⟩ := inv_seq I1 hqx
        obtain ⟨its2, rv2, p2, lt2⟩ := inv_seq I1 hqy
        obtain ⟨its3, rv3, p3, lt3⟩ := inv_seq I1 hqz
        refine zip_begins3 (begK b1 a its.toArray) (begK b2 b its2.toArray) (begK b3 c its3.toArray) p1 p2 p3 fun h' hz hTI hTO h1 h2 h3 hsz hk => wpAny_pyIter_zip hz ?_
        have I2 : Inv X pins σ H1 { s1 with heap := h' } := I1.kept (t' := s1.toks) hk
        refine ⟨s1.heap.objs.size + 5, [s1.heap.objs.size + 5, s1.heap.objs.size + 3, s1.heap.objs.size + 4, s1.heap.objs.size, s1.heap.objs.size + 1, s1.heap.objs.size + 2], _, _, H1, rfl, I2, turn_zip3 (sep3 s1.heap.objs.size a b c lt1 lt2 lt3) (Nat.ne_of_lt lt1) (Nat.ne_of_lt (Nat.lt_succ_of_lt lt2)) (Nat.ne_of_lt (Nat.lt_succ_of_lt (Nat.lt_succ_of_lt lt3))), ⟨hz, hTI, ⟨_, _, _, hTO⟩, HIt.new h1, HIt.new h2, HIt.new h3, Nat.zero_le _, Nat.zero_le _, Nat.zero_le _⟩, fun d hcm => ?_, q⟩
        have e' : d = s1.heap.objs.size + 5 ∨ d = s1.heap.objs.size + 3 ∨ d = s1.heap.objs.size + 4 ∨ d = s1.heap.objs.size ∨ d = s1.heap.objs.size + 1 ∨ d = s1.heap.objs.size + 2 := by simpa using hcm
        have hle : s1.heap.objs.size ≤ d := by
          rcases e' with z | z | z | z | z | z
          · rw [z]; exact Nat.le_add_right _ _
          · rw [z]; exact Nat.le_add_right _ _
          · rw [z]; exact Nat.le_add_right _ _
          · rw [z]; exact Nat.le_refl _
          · rw [z]; exact Nat.le_add_right _ _
          · rw [z]; exact Nat.le_add_right _ _
        exact I1.fpOk hle (I1.hok.fresh hle)
def zipL3 : List D → List D → List D → List D
  | x :: xs, y :: ys, z :: zs => .tuple [x, y, z] :: zipL3 xs ys zs
  | _, _, _ => []
theorem zipL3_length : ∀ xs ys zs : List D, (zipL3 xs ys zs).length = min xs.length (min ys.length zs.length)
  | [], _, _ => by simp [zipL3]
  | _ :: _, [], _ => by simp [zipL3]
  | _ :: _, _ :: _, [] => by simp [zipL3]
  | x :: xs, y :: ys, z :: zs => by
    simp only [zipL3, List.length_cons, zipL3_length xs ys zs]
    omega
theorem zipL3_get : ∀ {xs ys zs : List D} {i : Nat} {d : D}, (zipL3 xs ys zs)[i]? = some d → ∃ x y z, xs[i]? = some x ∧ ys[i]? = some y ∧ zs[i]? = some z ∧ d = .tuple [x, y, z]
  | [], _, _, i, d, h => by simp [zipL3] at h
  | _ :: _, [], _, i, d, h => by simp [zipL3] at h
  | _ :: _, _ :: _, [], i, d, h => by simp [zipL3] at h
  | x :: xs, y :: ys, z :: zs, 0, d, h => by
    simp [zipL3] at h
    exact ⟨x, y, z, rfl, rfl, rfl, h.symm⟩
  | x :: xs, y :: ys, z :: zs, i + 1, d, h => by
    simp [zipL3] at h
    obtain ⟨a, b, c, e1, e2, e3, e⟩ := zipL3_get h
    exact ⟨a, b, c, by simpa using e1, by simpa using e2, by simpa using e3, e⟩
def zipN : List D → Option (List D)
  | [x, y, z] => (seqB x).bind fun p => (seqB y).bind fun q => (seqB z).map fun r => zipL3 p.2 q.2 r.2
  | _ => none
theorem walk_zip3 {K : Fr} {G : Hp} {a b c : Addr} {b1 b2 b3 : Bool} {vs ws us : List V} {xs ys zs : List D} (ha : ∀ H, Same G H → SqK K b1 H a vs) (hb : ∀ H, Same G H → SqK K b2 H b ws) (hc : ∀ H, Same G H → SqK K b3 H c us) (da : DqAll K G vs xs) (db : DqAll K G ws ys) (dc : DqAll K G us zs) : WalkD K (Itz3 K b1 b2 b3 a b c vs ws us) G (zipL3 xs ys zs) := by
  have l1 := da.length
  have l2 := db.length
  have l3 := dc.length
  refine ⟨fun i G' H s1 s2 hi => ?_, fun i G' H s1 s2 hi => ?_, fun i G' H v H' d s1 s2 hd hy => ?_⟩
  · rw [zipL3_length] at hi
    exact ⟨ha H (s1.trans s2), hb H (s1.trans s2), hc H (s1.trans s2), by omega, by omega, by omega⟩
  · rw [zipL3_length] at hi
    exact ⟨ha H (s1.trans s2), hb H (s1.trans s2), hc H (s1.trans s2), by omega⟩
  · obtain ⟨T, x, y, w, rfl, hT, rfl, f1, f2, f3⟩ := hy
    obtain ⟨dx, dy, dz, e1, e2, e3, rfl⟩ := zipL3_get hd
    refine ⟨_, Gr.new s2 hT, .tup (SqT.of upd_same) ?_⟩
    have gg := (Gr.new (o := .tup [x, y, w]) s2 hT).gg
    exact .cons (Dq_mono (s1.trans gg) (da.idx e1 f1)) (.cons (Dq_mono (s1.trans gg) (db.idx e2 f2)) (.cons (Dq_mono (s1.trans gg) (dc.idx e3 f3)) .nil))
theorem qi_zipN {X : Cx} {e e2 e3 : Expr} {p pos tpos : Pos} {m : M (List D)} {elts : List Expr} {kk : Nat} (hm : X.mg "zip" = none) (ha : QA X [e, e2, e3] m) (hg : Gl X "zip" := by rfl)
    (hs : starEach [e, e2, e3] X.env = (false, eval e X.env) :: starEach [e2, e3] X.env := by rfl) (hpl : (backTo pos (starEach [e2, e3] X.env)).any (·.1) = false := by rfl) :
    QI X (.Tuple elts kk tpos) (.Call (.Name "zip" p) [e, e2, e3] [] pos) (iApp zipN m) := by
  refine PI.imp (pi_zip3 hg hm ha hs hpl) fun σ H Q h => ?_
  obtain ⟨R, G, ρ, ds, ρ', rp, e, k⟩ := h
  obtain ⟨xs, h1, h2⟩ := iApp_some e
  refine ⟨R, G, ρ, _, _, rp, h1, fun G1 H1 v1 s1 r1 d1 => ?_⟩
  unfold zipN at h2
  split at h2
  · rw [Option.bind_eq_some_iff] at h2
    obtain ⟨⟨b1, xs1⟩, e1, h2⟩ := h2
    rw [Option.bind_eq_some_iff] at h2
    obtain ⟨⟨b2, xs2⟩, e2, h2⟩ := h2
    rw [Option.map_eq_some_iff] at h2
    obtain ⟨⟨b3, xs3⟩, e3, h2⟩ := h2
    cases h2
    cases d1 with
    | cons da dr =>
      cases dr with
      | cons db dr =>
        cases dr with
        | cons dc dr =>
          cases dr
          obtain ⟨a, vs, rfl, ha, hva⟩ := dq_seq da e1
          obtain ⟨b, ws, rfl, hb, hvb⟩ := dq_seq db e2
          obtain ⟨c, us, rfl, hc, hvc⟩ := dq_seq dc e3
          exact ⟨b1, b2, b3, a, b, c, vs, ws, us, rfl, ha H1 r1.subG, hb H1 r1.subG, hc H1 r1.subG, k G1 H1 _ s1 r1 (walk_zip3 ha hb hc hva hvb hvc)⟩
  · cases h2
end QL
set_option Elab.async false
set_option linter.all false
set_option maxRecDepth 100000
set_option maxHeartbeats 1000000
/-! ### sorted of a tuple of whole numbers -/
namespace SrtO
open PySem PyProof.Rows Srt
section
variable {prog : Program} {w : World} {A : Around} {E : Value → Shared → Prop} {s : Shared}
theorem collect_tup {l : Addr} {vs : List Value} {Q : List Value → Shared → Prop} (hl : s.heap.IsTuple l vs.toArray)
    (h : Q vs { s with heap := (s.heap.push (seqObj "list" #[] 0)).update s.heap.objs.size (Obj.mapSeq (· ++ vs.toArray)) }) (hsz : vs.length ≤ sizeLine := by size_fits) :
    wpAny (model prog w) A (collect (.ref l)) Q E s := by
  obtain ⟨o, ho, hc, n, hd⟩ := id hl
  unfold collect
  refine wpAny_bind (wpAny_runValue (codeAny_builtin entry_proto_collect' ?_))
  show wpAny _ _ (do again (.builtin "list.__iadd__" ⟨[← newList [], .ref l], []⟩)) _ _ s
  refine wpAny_bind (wpAny_newList (wpAny_pure ⟨Code.quiet_builtin _ (by decide +kernel), codeAny_builtin entry_list_iadd' ?_⟩))
  show wpAny _ _ (Builtin.List.listExtendWith (.ref s.heap.objs.size) (.ref l) (.ref s.heap.objs.size)) _ _ { s with heap := s.heap.push (seqObj "list" #[] 0) }
  unfold Builtin.List.listExtendWith
  have ho' : (s.heap.push (seqObj "list" #[] 0)).get? l = some o := Heap.get?_push_of_some _ ho
  refine wpAny_bind (wpAny_typeOf (T := "tuple") ⟨o, ho', hc⟩ ?_)
  have ht : (Value.type "tuple" == Value.type "tuple") = true := by rfl
  rw [if_pos (by rw [ht]; simp)]
  refine wpAny_bind (listItems_at ho' hd ?_)
  refine wpAny_bind (listItems_at (xs := #[]) (n := 0) (Heap.get?_push_size _ rfl) rfl ?_)
  rw [if_neg (by simp)]
  refine wpAny_bind (listUpdate_at (xs := #[]) (n := 0) (Heap.get?_push_size _ rfl) rfl ?_ (Nat.zero_le _) (by show (#[] ++ vs.toArray).size ≤ sizeLine + 1; simp only [Array.size_append, List.size_toArray, List.length_nil]; omega))
  refine wpAny_pure ?_
  show wpAny (model prog w) A (do
      let o ← load s.heap.objs.size
      match o.data with
      | .seq xs _ => pure xs.toList
      | _ => unsupported "internal:collect") Q E { s with heap := (s.heap.push (seqObj "list" #[] 0)).update s.heap.objs.size (Obj.mapSeq (· ++ vs.toArray)) }
  refine wpAny_bind (wpAny_load (get?_update_seq (Heap.get?_push_size _ rfl) _) ?_)
  show wpAny _ _ (pure ((#[] : Array Value) ++ vs.toArray).toList) Q E _
  rw [show ((#[] : Array Value) ++ vs.toArray).toList = vs by simp]
  exact wpAny_pure h
theorem sorted_ordT {l : Addr} {vs : List Value} {ltv : Value → Value → Bool} {Q : Value → Shared → Prop} (O : Swo ltv) (hl : s.heap.IsTuple l vs.toArray) (hz : vs.length ≤ sizeLine)
    (hS : 2 ≤ vs.length → ∀ (h₁ : Heap) (a : Addr), h₁.get? a = some (seqObj "list" vs.toArray 0) → (∀ b o, s.heap.get? b = some o → b ≠ a ∧ h₁.get? b = some o) → SortableO prog w A.in1.in1 { s with heap := h₁ } a vs ltv)
    (h : ∀ out : List Value, Srtd ltv out → Stb ltv out vs → Q (.ref (s.heap.objs.size + 1)) { s with heap := sortedAll s.heap vs out.toArray }) :
    wpAny (model prog w) A (call (.builtin "sorted") [.ref l]) Q E s := by
  refine Calls.call_function_entry kind_sorted plain_sorted entry_sorted (args_sorted1 _) ?_
  unfold Builtin.«sorted»
  refine wpAny_bind (m := checkCount "sorted" 1 1 _) (wpAny_pure ?_)
  refine wpAny_bind (collect_tup hl ?_ hz)
  refine wpAny_bind (wpAny_newList ?_ hz)
  have hsz : ((s.heap.push (seqObj "list" #[] 0)).update s.heap.objs.size (Obj.mapSeq (· ++ vs.toArray))).objs.size = s.heap.objs.size + 1 := by
    rw [Heap.size_update, size_push']
  have hoL : (((s.heap.push (seqObj "list" #[] 0)).update s.heap.objs.size (Obj.mapSeq (· ++ vs.toArray))).push (seqObj "list" vs.toArray 0)).get? (s.heap.objs.size + 1) = some (seqObj "list" vs.toArray 0) := by
    rw [← hsz]; exact Heap.get?_push_size _ rfl
  have keep : ∀ b o, s.heap.get? b = some o → b ≠ s.heap.objs.size + 1 ∧ (((s.heap.push (seqObj "list" #[] 0)).update s.heap.objs.size (Obj.mapSeq (· ++ vs.toArray))).push (seqObj "list" vs.toArray 0)).get? b = some o := fun b o q => by
    have hlt : b < s.heap.objs.size := Heap.lt_size q
    refine ⟨Nat.ne_of_lt (Nat.lt_succ_of_lt hlt), Heap.get?_push_of_some _ ?_⟩
    rw [Heap.get?_update_ne _ _ _ _ (Nat.ne_of_lt hlt)]
    exact Heap.get?_push_of_some _ q
  show wpAny _ _ _ _ _ { s with heap := ((s.heap.push (seqObj "list" #[] 0)).update s.heap.objs.size (Obj.mapSeq (· ++ vs.toArray))).push (seqObj "list" vs.toArray 0) }
  rw [hsz]
  refine wpAny_bind (wpAny_holding (wpAny_call_entry slot_list_sort ⟨_, hoL, rfl⟩ entry_list_sort (list_sort_ord O hoL hz (fun h2 => hS h2 _ _ hoL keep) fun out hs hb => ⟨_, rfl, ?_⟩) (args_list_sort _)))
  exact wpAny_pure ⟨_, rfl, h out hs hb⟩
end
end SrtO
namespace QL
open PySem PySem.Spec PyProof.Rows L2
def rSortedIT (K : Fr) : List V → Hp → VK → Prop := fun vs H Q => ∃ (a : Addr) (ns : List Int), vs = [V.ref a] ∧ SqT K H a (ns.map V.int) ∧
  ∀ (ns' : List Int) (p : Addr), ns'.Perm ns → ns'.Pairwise (· ≤ ·) → H p = none → Q (.ref p) (upd H p (.lst (ns'.map V.int)))
theorem cr_sortedIT {X : Cx} : CallR X (.builtin "sorted") (rSortedIT X.K) := by
  intro pins s σ H vs us Q I r h
  obtain ⟨a, ns, rfl, hs, q⟩ := h
  obtain ⟨its, rv, hl, hz⟩ := I.tuple hs
  rw [Vals.ref1 r]
  have hi := rv.ints
  have hl' : s.heap.IsTuple a its.toArray := hl
  refine SrtO.sorted_ordT SrtO.swo_int hl' (by rw [← rv.length]; exact hz) (fun h2 h₁ a' _ _ => SrtO.ints_sortable hi h2) fun out h1 h2 => ?_
  obtain ⟨k1, k2, k3⟩ := SrtO.ints_out hi h1 h2
  obtain ⟨ep, he'⟩ := PyProof.Rows.sortedAll_at s.heap its out.toArray
  have hlen : ((out.map SrtO.iv).map V.int).length ≤ sizeLine := by
    rw [List.length_map, k2.length_eq]
    rw [List.length_map] at hz
    exact hz
  exact ⟨.ref _, upd H (s.heap.objs.size + 1) (.lst ((out.map SrtO.iv).map V.int)), I.laid (t' := s.toks) (fun _ _ => PyProof.Rows.sortedAll_old) (Nat.le_succ _) ⟨hlen, out, ep, vals_of_ints k1, he'⟩, rfl, q _ _ k2 k3 (I.hok.fresh (Nat.le_succ _))⟩
def dSortedT : List D → Option D
  | [.tuple a] => (intsOf a).map fun ns => .list ((ns.mergeSort (· ≤ ·)).map .int)
  | _ => none
theorem d_sortedT {K : Fr} : CallD K (rSortedIT K) dSortedT := by
  intro G H vs ds d Q s h e k
  unfold dSortedT at e
  split at e
  · rw [Option.map_eq_some_iff] at e
    obtain ⟨bs, hb, e⟩ := e
    cases e
    obtain ⟨v, rfl, hd⟩ := one_of h
    cases hd with
    | tup h1 a1 =>
      rw [ints_of a1 hb] at h1
      refine ⟨_, bs, rfl, SqT_mono s h1, fun ns' p hp hs hn => k _ _ _ (Gr.new s hn) ?_⟩
      rw [← sorted_one hp hs]
      refine .lst upd_same ?_
      have : ∀ (G : Hp) (l : List Int), DqAll K G (l.map V.int) (l.map PyData.int) := fun G l => by
        induction l with
        | nil => exact .nil
        | cons a r ih => exact .cons (.int _) ih
      exact this _ _
  · cases e
end QL
set_option Elab.async false
set_option linter.all false
set_option maxRecDepth 100000
set_option maxHeartbeats 1000000
/-! ### xs[::-1], xs a tuple -/
namespace HT
open PySem PyProof.Rows L2
section
variable {prog : Program} {w : World} {A : Around} {E : Value → Shared → Prop} {s : Shared}
theorem adjust_rev (n : Nat) : Builtin.Slice.sliceAdjust none none (-1) (n : Int) = ((n : Int) - 1, -1) := by
  unfold Builtin.Slice.sliceAdjust
  first
  | rfl
  | (simp; done)
  | (simp; omega)
theorem places_rev (n : Nat) : Builtin.Slice.slicePlaces ((n : Int) - 1) (-1) (-1) = n := by
  unfold Builtin.Slice.slicePlaces
  by_cases h : 0 < n
  · have h1 : ((-1 : Int) < (n : Int) - 1) := by omega
    simp
    omega
  · have : n = 0 := by omega
    subst this
    first | rfl | simp
theorem sliceApplied_rev {sl : Addr} {vs : Value} {n : Nat} {Q : Int × Int × Nat → Shared → Prop} (hs : s.heap.IsSliceOf sl .none .none vs) (ps : IsPart vs (some (-1)))
    (h : Q ((n : Int) - 1, -1, n) s) : wpAny (model prog w) A (Builtin.Slice.sliceApplied (.ref sl) (pure (n : Int))) Q E s := by
  obtain ⟨os, hos, hcs, hds⟩ := id hs
  unfold Builtin.Slice.sliceApplied Builtin.Slice.sliceFields
  refine wpAny_bind (wpAny_bind (wpAny_field hos hds (x := .none) rfl (wpAny_bind (wpAny_field hos hds (x := .none) rfl (wpAny_bind (wpAny_field hos hds (x := vs) rfl (wpAny_pure ?_)))))))
  refine wpAny_bind (slicePart_ ps ?_)
  show wpAny _ _ (if ((-1 : Int) == 0) = true then _ else _) _ _ s
  rw [if_neg (by decide)]
  refine wpAny_bind (slicePart_none (wpAny_bind (slicePart_none (wpAny_bind (wpAny_pure ?_)))))
  show wpAny _ _ (match Builtin.Slice.sliceAdjust none none (-1) (n : Int) with | (lo, hi) => pure (lo, (-1 : Int), Builtin.Slice.slicePlaces lo hi (-1))) _ _ s
  rw [adjust_rev n]
  show wpAny _ _ (pure ((n : Int) - 1, (-1 : Int), Builtin.Slice.slicePlaces ((n : Int) - 1) (-1) (-1))) _ _ s
  rw [places_rev]
  exact wpAny_pure h
theorem fm_congr {α β : Type} {f g : α → Option β} : ∀ l : List α, (∀ a ∈ l, f a = g a) → l.filterMap f = l.filterMap g
  | [], _ => rfl
  | a :: l, h => by
    rw [List.filterMap_cons, List.filterMap_cons, h a List.mem_cons_self, fm_congr l fun b hb => h b (List.mem_cons_of_mem _ hb)]
theorem pick_rev (xs : Array Value) : ((List.range xs.size).filterMap fun (m : Nat) => xs[((xs.size : Int) - 1 + (m : Int) * -1).toNat]?).toArray = xs.toList.reverse.toArray := by
  have e : (List.range xs.size).filterMap (fun (m : Nat) => xs[((xs.size : Int) - 1 + (m : Int) * -1).toNat]?) = ((List.range xs.size).map fun k => xs.size - 1 - k).filterMap (xs[·]?) := by
    rw [List.filterMap_map]
    refine fm_congr _ fun m hm => ?_
    have := List.mem_range.mp hm
    show xs[_]? = xs[xs.size - 1 - m]?
    congr 1
    omega
  rw [e, PySem.W.krv_range, List.filterMap_reverse, PySem.W.krv_all]
theorem getItem_tuple_rev {t sl : Addr} {items : Array Value} {vs : Value} {Q : Value → Shared → Prop} (ht : IsTup s.heap t items) (hs : s.heap.IsSliceOf sl .none .none vs) (ps : IsPart vs (some (-1)))
    (h : Q (.ref s.heap.objs.size) { s with heap := s.heap.push { cls := .type "tuple", data := .seq items.toList.reverse.toArray } })
    (hsz : items.size ≤ sizeLine) : wpAny (model prog w) A (getItem (.ref t) (.ref sl)) Q E s := by
  have htake : sizeOk (.seq items.toList.reverse.toArray) := by
    show items.toList.reverse.toArray.size ≤ sizeLine
    rw [List.size_toArray, List.length_reverse, Array.length_toList]
    exact hsz
  obtain ⟨os, hos, hcs, hds⟩ := id hs
  have hTs : s.TypeIs (.ref sl) "slice" := ⟨os, hos, hcs⟩
  unfold getItem
  try with_reducible refine wpAny_holding ?_
  first | refine wpAny_bind (wpAny_pure ?_) | skip
  refine wpAny_bind (wpAny_sequenceKey ht.typeIs (by decide) ?_)
  refine wpAny_bind (wpAny_callSpecial?_slot (name := Str.ofString "__getitem__") ht.typeIs PyProof.Rows.slot_tuple_getitem
    (wpAny_call_entry PyProof.Rows.slot_tuple_getitem ht.typeIs entry_tuple_getitem ?_ (args_tuple_getitem _ _)))
  show wpAny _ _ (Builtin.Tuple.tupleItemsOf (.ref t) >>= _) _ _ s
  refine wpAny_bind (tupleItemsOf_ ht ?_)
  refine wpAny_bind (wpAny_typeOf hTs ?_)
  rw [if_pos (by decide)]
  refine wpAny_bind (sliceApplied_rev hs ps ?_)
  have hno : ¬ ((((items.size : Int) - 1) == 0 && (-1 : Int) == 1 && items.size == items.size) = true) := by
    intro q
    rw [Bool.and_eq_true, Bool.and_eq_true] at q
    exact absurd (eq_of_beq q.1.2) (by decide)
  show wpAny _ _ (if (((items.size : Int) - 1) == 0 && (-1 : Int) == 1 && items.size == items.size) = true then _ else _) _ _ s
  rw [if_neg hno, pick_rev]
  first
    | exact wpAny_bind (m := Builtin.Tuple.tupleExact _) (wpAny_newObj_type (wpAny_pure ⟨_, rfl, wpAny_pure h⟩) htake)
    | exact wpAny_bind (m := Builtin.Tuple.tupleExact _) (wpAny_newObj_type (wpAny_bind (wpAny_pure (wpAny_pure ⟨_, rfl, wpAny_pure h⟩))) htake)
    | exact wpAny_bind (wpAny_bind (m := Builtin.Tuple.tupleExact _) (wpAny_newObj_type (wpAny_pure (wpAny_pure ⟨_, rfl, wpAny_pure h⟩)) htake))
    | exact wpAny_bind (wpAny_bind (m := Builtin.Tuple.tupleExact _) (wpAny_newObj_type (wpAny_pure ⟨_, rfl, wpAny_pure h⟩) htake))
end
end HT
namespace QL
open PySem PySem.Spec PyProof.Rows L2
section
variable {X : Cx}
def tRevT (K : Fr) (te : TE) : TE := fun σ H Q => te σ H fun x H1 => ∃ a xs, x = .ref a ∧ SqT K H1 a xs ∧ ∀ p, H1 p = none → Q (.ref p) (upd H1 p (.tup xs.reverse))
theorem pe_revT {e : Expr} {te : TE} {k : Nat} {p1 p2 p3 pos : Pos} (he : PE X e te) : PE X (.Subscript e (.Slice none none (some (.UnaryOp .USub (.Constant (.int 1) k p1) p2)) p3) pos) (tRevT X.K te) := by
  refine ⟨fun pins s σ H Q I h => ?_⟩
  refine Subscript_ (thn (he.run pins s σ H _ I h) fun v s1 ⟨x, H1, I1, r1, q1⟩ => ?_)
  obtain ⟨a, xs, ex, hx, q⟩ := q1
  subst ex
  cases r1
  have hst : PO X (some (.UnaryOp .USub (.Constant (.int 1) k p1) p2)) (tPart (tUn (rU fun i => .int (-i)) (tC (.int 1)))) := po_some (pe_un un_neg pe_int)
  refine wpAny_Slice (thn (po_none.run pins s1 σ H1 (fun o H2 => o = none ∧ H2 = H1) I1 ⟨rfl, rfl⟩) fun vl s2 ⟨l, H2, I2, pl, el, e2⟩ => ?_)
  subst el e2
  refine thn (po_none.run pins s2 σ H2 (fun o H3 => o = none ∧ H3 = H2) I2 ⟨rfl, rfl⟩) fun vu s3 ⟨u, H3, I3, pu, eu, e3⟩ => ?_
  subst eu e3
  refine thn (hst.run pins s3 σ H3 (fun o H4 => o = some (-1) ∧ H4 = H3) I3 ⟨1, rfl, -1, rfl, rfl, rfl⟩) fun vs s4 ⟨o, H4, I4, ps, eo, e4⟩ => ?_
  subst eo e4
  cases pl
  cases pu
  have I5 : Inv X pins σ H4 { s4 with heap := s4.heap.push { cls := .type "slice", data := .fields #[.none, .none, vs] } } := I4.kept (t' := s4.toks) fun b ob q => Heap.get?_push_of_some _ q
  obtain ⟨its, r, ht, hz⟩ := I5.tuple hx
  have hlen := r.length
  show wpAny (model X.prog X.w) X.A (subscriptTail e (.Slice none none (some (.UnaryOp .USub (.Constant (.int 1) k p1) p2)) p3) (.ref a) (.ref s4.heap.objs.size)) (EP X pins σ Q) X.xe { s4 with heap := s4.heap.push { cls := .type "slice", data := .fields #[.none, .none, vs] } }
  refine tail_any (ops := [.ref a, .ref s4.heap.objs.size]) ht.typeIs (PyProof.Rows.slot_tuple_getitem.lookup) ?_ (by with_unfolding_all rfl)
  refine HT.getItem_tuple_rev ht (Heap.IsSliceOf.new _ .none .none vs) ps ?_ (by rw [List.size_toArray]; omega)
  refine ⟨.ref _, _, I5.laid (t' := s4.toks) (o := .tup xs.reverse) (fun b ob q => Heap.get?_push_of_some _ q) (Nat.le_refl _) ?_, rfl, q _ (I5.hok.fresh (Nat.le_refl _))⟩
  exact ⟨by rw [List.length_reverse]; exact hz, _, r.reverse, ⟨_, Heap.get?_push_size _ rfl, rfl, _, rfl⟩⟩
def dRevT : D → Option D
  | .tuple ds => some (.tuple ds.reverse)
  | _ => none
theorem qe_revT {e : Expr} {m : M D} {k : Nat} {p1 p2 p3 pos : Pos} (he : QE X e m) : QE X (.Subscript e (.Slice none none (some (.UnaryOp .USub (.Constant (.int 1) k p1) p2)) p3) pos) (eOp1 dRevT m) := by
  refine PE.imp (pe_revT he) fun σ H Q h => ?_
  obtain ⟨R, G, ρ, d, ρ', rp, e, kk⟩ := h
  unfold eOp1 at e
  rw [Option.bind_eq_some_iff] at e
  obtain ⟨⟨x, ρ1⟩, h1, e⟩ := e
  rw [Option.map_eq_some_iff] at e
  obtain ⟨w, h3, e⟩ := e
  cases e
  refine ⟨R, G, ρ, x, _, rp, h1, fun G1 H1 v1 s1 r1 d1 => ?_⟩
  cases d1 with
  | tup hs ha =>
    rename_i a xs ds
    cases h3
    refine ⟨_, _, rfl, SqT_mono r1.subG hs, fun p hp => ?_⟩
    have g := Gr.new (o := .tup xs.reverse) r1.subG hp
    exact kk _ _ _ (s1.trans g.gg) (r1.grow g) (.tup (SqT.of upd_same) (DqAll_mono g.gg ha.reverse))
  | _ => cases h3
end
end QL
set_option Elab.async false
set_option linter.all false
set_option maxRecDepth 100000
set_option maxHeartbeats 1000000
/-! ### defs that raise -/
namespace QL
open PySem PySem.Spec PyProof.Rows L2
/-- an exception of the class named x leaves -/
def tRZ (K : Fr) (cm : Str → Value) (E : XK) (rz : Ro → Option Str) : TS := fun _ σ H => ∃ R G ρ x, Rep K R G H ρ σ ∧ rz ρ = some x ∧ ∀ G' H' σ' ρ', Same G G' → Rep K R G' H' ρ' σ' → E (cm x) none H'
def spR (K : Fr) (cm : Str → Value) (X : List D → Option Str) (n : Nat) : Sp := fun vs H Q E => vs.length = n ∧ ∃ G ds x, Same G H ∧ DqAll K G vs ds ∧ X ds = some x ∧ ∀ G' H', Gr G H G' H' → E (cm x) none H'
def spE (K : Fr) (cm : Str → Value) (F : List D → Option D) (X : List D → Option Str) (n : Nat) : Sp := fun vs H Q E => spP K F n vs H Q E ∨ spR K cm X n vs H Q E
def runR (n N : Nat) (rz : Ro → Option Str) : List D → Option Str := fun ds => if ds.length = n then rz (ds.map Sl.dat ++ List.replicate (N - n) Sl.un) else none
theorem runR_len {n N : Nat} {rz : Ro → Option Str} : ∀ ds d, runR n N rz ds = some d → ds.length = n := fun ds d h => by
  unfold runR at h
  split at h
  · assumption
  · cases h
def xSeq (m : MS) (rz : Ro → Option Str) : Ro → Option Str := fun ρ => (m ρ).bind fun p => match p.1 with
  | .nx => rz p.2
  | _ => none
def xIf (m : M Bool) (rz : Ro → Option Str) : Ro → Option Str := fun ρ => (m ρ).bind fun p => if p.1 = true then rz p.2 else none
def xCall (Xf : List D → Option Str) (m : M (List D)) : Ro → Option Str := fun ρ => (m ρ).bind fun p => Xf p.1
def xExc (y : Str) : Ro → Option Str := fun _ => some y
section
variable {X : Cx} {cm : Str → Value} {E : XK} {pos p p2 : Pos}
/-- the facts of an exception class of the program -/
structure ClsOk (K : Fr) (mg : Str → Option Value) (cm : Str → Value) (bmB : List Value) (newId : String) (y : Str) : Prop where
  ex : ∃ C, cm y = .ref C ∧ mg y = some (.ref C) ∧ PySem.W.keepIn K (.ref C) = true ∧ PySem.W.excIn K C bmB newId = true ∧ PySem.W.subIn K (.ref C) (.type "BaseException") = some true ∧ PySem.W.typeIn K (.ref C) = some (.type "type")
theorem rz_raise {B newId initId : String} {bmB : List Value} {y m : Str} {j : Nat} {pos' : Pos} (F : ExcBaseFacts B newId initId bmB) (hC : ClsOk X.K X.mg cm bmB newId y) (tk : Takes X (fun cls d _ H => E cls d H)) (hc : X.calm = true := by rfl) (hg : Gl X y := by rfl) (hdb : (y == ("__debug__" : Str)) = false := by decide) :
    PS X (.Raise (some (.Call (.Name y p) [.Constant (.str m) j p2] [] pos)) none pos') (tRZ X.K cm E (xExc y)) := by
  obtain ⟨C, h1, h2, h3, h4, h5, h6⟩ := hC.ex
  refine PS.imp (ps_raise hc tk (pmk_own F h4 h2 h3 (raises_own h5 h6) hg hdb)) fun D σ H h => ?_
  obtain ⟨R, G, ρ, x, rp, e, k⟩ := h
  cases e
  have := k G H σ ρ (.refl _) rp
  rw [h1] at this
  exact this
theorem rz_one {st : Stmt} {rz : Ro → Option Str} (h : PS X st (tRZ X.K cm E rz)) {rest : List Stmt} : PSs X (st :: rest) (tRZ X.K cm E rz) :=
  PSs.imp (pss_cons h pss_never) fun D σ H h => h
theorem rz_cons {st : Stmt} {rest : List Stmt} {m : MS} {W : List Nat} {rz : Ro → Option Str} (h1 : QS X W st m) (h2 : PSs X rest (tRZ X.K cm E rz)) : PSs X (st :: rest) (tRZ X.K cm E (xSeq m rz)) := by
  refine PSs.imp (pss_cons h1 h2) fun D σ H h => ?_
  obtain ⟨R, G, ρ, x, rp, e, k⟩ := h
  unfold xSeq at e
  rw [Option.bind_eq_some_iff] at e
  obtain ⟨⟨fl, ρ1⟩, hm, e⟩ := e
  cases fl with
  | nx =>
    refine ⟨R, G, ρ, .nx, ρ1, rp, hm, fun G1 H1 σ1 s1 r1 f1 => ?_⟩
    exact ⟨R, G1, ρ1, x, r1, e, fun G2 H2 σ2 ρ2 s2 r2 => k G2 H2 σ2 ρ2 (s1.trans s2) r2⟩
  | bk => cases e
  | ct => cases e
  | rt d => cases e
theorem rz_if {c : Expr} {a b : List Stmt} {m : M Bool} {rz : Ro → Option Str} (hc : QT X c m) (ha : PSs X a (tRZ X.K cm E rz)) : PS X (.If c a b pos) (tRZ X.K cm E (xIf m rz)) := by
  refine PS.imp (ps_if hc ha (pss_never (sts := b))) fun D σ H h => ?_
  obtain ⟨R, G, ρ, x, rp, e, k⟩ := h
  unfold xIf at e
  rw [Option.bind_eq_some_iff] at e
  obtain ⟨⟨b1, ρ1⟩, hm, e⟩ := e
  cases b1 with
  | true =>
    rw [if_pos rfl] at e
    refine ⟨R, G, ρ, true, ρ1, rp, hm, fun G1 H1 s1 r1 => ?_⟩
    show (if true = true then _ else _)
    rw [if_pos rfl]
    exact ⟨R, G1, ρ1, x, r1, e, fun G2 H2 σ2 ρ2 s2 r2 => k G2 H2 σ2 ρ2 (s1.trans s2) r2⟩
  | false => cases e
/-- a call that raises -/
theorem rz_call {x : Str} {k : Nat} {f : Addr} {fd : FuncData} {ps : List Str} {F : List D → Option D} {Xf : List D → Option Str} {n : Nat} {e : Expr} {es : List Expr} {m : M (List D)} (tk : Takes X (fun cls d _ H => E cls d H))
    (FO : FnOk X.prog X.w X.K X.mg X.base (L2.CX X.prog X.w) k f fd ps (spE X.K cm F Xf n)) (hr : Room k X.A) (hm : X.mg x = some (.ref f)) (hk : PySem.W.keepIn X.K (.ref f) = true) (hb : Binds X.K fd ps [])
    (ha : QA X (e :: es) m) (hF : ∀ ds d, Xf ds = some d → ds.length = n) (hg : Gl X x := by rfl) (hdb : (x == ("__debug__" : Str)) = false := by decide) (he : starEach (e :: es) X.env = (false, eval e X.env) :: starEach es X.env := by rfl) (hpl : (backTo pos (starEach es X.env)).any (·.1) = false := by rfl) :
    PE X (.Call (.Name x p) (e :: es) [] pos) (fun σ H _ => tRZ X.K cm E (xCall Xf m) { nx := fun _ _ => True, rt := fun _ _ => True } σ H) := by
  refine PE.imp (pe_callS (E := WE fun cls d _ H => E cls d H) FO hr hg hm hk hb (fun σ => passAt tk σ) ha hdb he hpl) fun σ H Q h => ?_
  obtain ⟨R, G, ρ, y, rp, e, kk⟩ := h
  unfold xCall at e
  rw [Option.bind_eq_some_iff] at e
  obtain ⟨⟨ds, ρ1⟩, hmm, e⟩ := e
  refine ⟨R, G, ρ, ds, ρ1, rp, hmm, fun G1 H1 v1 s1 r1 d1 => .inr ⟨?_, G1, ds, y, r1.subG, d1, e, fun G2 H2 g2 => ?_⟩⟩
  · rw [d1.length]; exact hF _ _ e
  · exact kk G2 H2 σ ρ1 (s1.trans g2.gg) (r1.grow g2)
end
theorem rz_or {X : Cx} {cm : Str → Value} {E : XK} {sts : List Stmt} {r1 r2 : Ro → Option Str} (h1 : PSs X sts (tRZ X.K cm E r1)) (h2 : PSs X sts (tRZ X.K cm E r2)) : PSs X sts (tRZ X.K cm E fun ρ => match r1 ρ with
    | some x => some x
    | none => r2 ρ) := ⟨fun pins s σ H D I h => by
  obtain ⟨R, G, ρ, x, rp, e, k⟩ := h
  cases q : r1 ρ with
  | some y =>
    simp only [q] at e
    cases e
    exact h1.run pins s σ H D I ⟨R, G, ρ, _, rp, q, k⟩
  | none =>
    simp only [q] at e
    exact h2.run pins s σ H D I ⟨R, G, ρ, x, rp, e, k⟩⟩
/-! what may leave -/
def RzIn (rz : Ro → Option Str) (l : List Str) : Prop := ∀ ρ z, rz ρ = some z → z ∈ l
theorem xExc_in {y : Str} {l : List Str} (h : y ∈ l) : RzIn (xExc y) l := fun ρ z e => by cases e; exact h
theorem xSeq_in {m : MS} {rz : Ro → Option Str} {l : List Str} (h : RzIn rz l) : RzIn (xSeq m rz) l := fun ρ z e => by
  unfold xSeq at e
  rw [Option.bind_eq_some_iff] at e
  obtain ⟨⟨fl, ρ1⟩, _, e⟩ := e
  cases fl with
  | nx => exact h _ z e
  | bk => cases e
  | ct => cases e
  | rt d => cases e
theorem xIf_in {m : M Bool} {rz : Ro → Option Str} {l : List Str} (h : RzIn rz l) : RzIn (xIf m rz) l := fun ρ z e => by
  unfold xIf at e
  rw [Option.bind_eq_some_iff] at e
  obtain ⟨⟨b, ρ1⟩, _, e⟩ := e
  simp only at e
  split at e
  · exact h _ z e
  · cases e
theorem runR_in {n N : Nat} {rz : Ro → Option Str} {l : List Str} (h : RzIn rz l) : ∀ ds z, runR n N rz ds = some z → z ∈ l := fun ds z e => by
  unfold runR at e
  split at e
  · exact h _ z e
  · cases e
/-- a def in the mode in which it raises -/
theorem fnR {P : Program} {w : World} {K : Fr} {mg : Str → Option Value} {base : Heap} {x qual : Str} {st : Stmt} {f : Addr} {fd : FuncData} {N ps : List Str} {k : Nat} {cm : Str → Value} {rz : Ro → Option Str} (F : Fun K x qual st f fd) (S : FnScope N ps (defScope st))
    (h : ∀ (cdv : Value) (A : Around) (outer : List Env) (s : Shared) (H : Hp) (E : XK), Room k (A.deeper (envOfC qual (defScope st) s.heap.objs.size f cdv)) → PSs (cxOf (L2.CX P w) P w K mg base N qual (defScope st) f cdv A outer s H E) (defBody st) (tRZ K cm E rz)) :
    FnOk P w K mg base (L2.CX P w) (k + 1) f fd ps (spR K cm (runR ps.length N.length rz) ps.length) := by
  refine F.okX S (fun vs H Q E h => h.1) (fun cdv A outer s H vs Q E hr hsp => ⟨_, h cdv A outer s H E hr, ?_⟩)
  obtain ⟨hl, G, ds, y, sG, dd, e, k⟩ := hsp
  unfold runR at e
  split at e
  · rename_i hn
    let R : Hp := fun a => if G a = none then H a else none
    have hR : ∀ a o, R a = some o → G a = none ∧ H a = some o := fun a o q => by
      by_cases z : G a = none
      · exact ⟨z, by have := q; simp only [R, z, if_true] at this; exact this⟩
      · have := q; simp only [R, z, if_false] at this; cases this
    have hRi : ∀ a o, G a = none → H a = some o → R a = some o := fun a o z q => by simp only [R, z, if_true]; exact q
    have rep0 : Rep K R G H (ds.map Sl.dat ++ List.replicate (N.length - ps.length) Sl.un) (L2.start N vs) := by
      refine ⟨?_, fun a o q => (hR a o q).2, sG, fun a o q => .inl (hR a o q).1, fun i s hs => ?_, fun i j c c' p h1 h2 _ _ => ?_⟩
      · simp [L2.start, dd.length, ← hn]
      · by_cases hi : i < ds.length
        · rw [List.getElem?_append_left (by simpa using hi), List.getElem?_map] at hs
          rw [List.getElem?_eq_getElem hi] at hs
          cases hs
          obtain ⟨v, hv, dv⟩ := dd.get (List.getElem?_eq_getElem hi)
          refine ⟨v, ?_, dv⟩
          show (vs.map some ++ _)[i]? = _
          rw [List.getElem?_append_left (by rw [List.length_map, dd.length]; exact hi), List.getElem?_map, hv]
          rfl
        · rw [List.getElem?_append_right (by simpa using hi), List.getElem?_replicate] at hs
          split at hs
          · cases hs; trivial
          · cases hs
      · exfalso
        by_cases hi : i < ds.length
        · rw [List.getElem?_append_left (by simpa using hi), List.getElem?_map, List.getElem?_eq_getElem hi] at h1
          cases h1
        · rw [List.getElem?_append_right (by simpa using hi), List.getElem?_replicate] at h1
          split at h1 <;> cases h1
    refine ⟨R, G, _, y, rep0, e, fun G' H' σ' ρ' s r => k G' H' ⟨fun a o q => ?_, s, r.subG, fun a o q1 q2 => ?_⟩⟩
    · cases z : G a with
      | none => exact r.subR a o (hRi a o z q)
      | some u =>
        have := sG a u z
        rw [q] at this
        cases this
        exact r.subG a _ (s a _ z)
    · cases z : H a with
      | none => exact .inl rfl
      | some u =>
        refine .inr ?_
        rcases r.dis a u (hRi a u q1 z) with w | w
        · rw [q2] at w; cases w
        · have w2 := r.subR a u (hRi a u q1 z)
          rw [r.subG a _ q2] at w2
          cases w2
          exact w
  · cases e
theorem takes_cx {P : Program} {w : World} {K : Fr} {mg : Str → Option Value} {base : Heap} {N : List Str} {qual : Str} {sc : Scope} {f : Addr} {cdv : Value} {A : Around} {outer : List Env} {s : Shared} {H : Hp} {E : XK} :
    Takes (cxOf (L2.CX P w) P w K mg base N qual sc f cdv A outer s H E) (fun cls d _ H => E cls d H) := takes_of rfl rfl rfl rfl
/-- both modes -/
theorem fnE {P : Program} {w : World} {K : Fr} {mg : Str → Option Value} {base : Heap} {f : Addr} {fd : FuncData} {ps : List Str} {k : Nat} {cm : Str → Value} {F : List D → Option D} {X : List D → Option Str} {n : Nat} (h1 : FnOk P w K mg base CX0 k f fd ps (spP K F n)) (h2 : FnOk P w K mg base (L2.CX P w) k f fd ps (spR K cm X n)) :
    FnOk P w K mg base (L2.CX P w) k f fd ps (spE K cm F X n) := by
  refine ⟨fun vs H Q E h => ?_, fun A outer s H args us vs Q E hr he hb hv hs => ?_⟩
  · rcases h with h | h
    · exact h1.len vs H Q E h
    · exact h2.len vs H Q E h
  · rcases hs with h | h
    · refine codeAny_mono (h1.run A outer s H args us vs Q E hr he hb hv h) fun r s' hq => ?_
      cases r with
      | error e => exact False.elim hq
      | ok fl => cases fl <;> exact hq
    · exact h2.run A outer s H args us vs Q E hr he hb hv h
section
variable {X : Cx}
/-- try: f(..) and what follows; except y: suite -/
def sTry1 (F : List D → Option D) (Xf : List D → Option Str) (as : M (List D)) (b hnd : MS) : MS := fun ρ => (as ρ).bind fun p => match Xf p.1 with
  | some _ => hnd p.2
  | none => (F p.1).bind fun _ => b p.2
theorem qs_try1 {x y : Str} {c : Value} {k : Nat} {f : Addr} {fd : FuncData} {ps : List Str} {cm : Str → Value} {F : List D → Option D} {Xf : List D → Option Str} {n : Nat} {e : Expr} {es : List Expr} {m : M (List D)} {rest suite : List Stmt} {b₀ : Stmt} {p cpos epos np hpos pos : Pos} {b hnd : MS} {W V : List Nat}
    (FO : FnOk X.prog X.w X.K X.mg X.base (L2.CX X.prog X.w) k f fd ps (spE X.K cm F Xf n)) (hr : Room k X.A) (hm : X.mg x = some (.ref f)) (hk : PySem.W.keepIn X.K (.ref f) = true) (hb : Binds X.K fd ps [])
    (hn : Names X y c) (hall : ∀ ds z, Xf ds = some z → PySem.W.exmOne X.K (cm z) c = some true)
    (ha : ∀ pn xe, QA (X.tr pn xe) (e :: es) m) (hbd : ∀ pn xe, QSs (X.tr pn xe) W rest b) (hsu : ∀ a pn, QSs (X.suite a pn) V (b₀ :: suite) hnd)
    (hs : X.stack = X.env :: X.outer := by rfl) (hf : X.env.frame = some X.env.locals := by rfl) (hg : Gl X x := by rfl) (hdb : (x == ("__debug__" : Str)) = false := by decide)
    (hst : starEach (e :: es) X.env = (false, eval e X.env) :: starEach es X.env := by rfl) (hpl : (backTo cpos (starEach es X.env)).any (·.1) = false := by rfl) (hsw : swapsWith (.Call (.Name x p) (e :: es) [] cpos) none epos.line X.env = pure false := by rfl)
    (hF : ∀ ds d, F ds = some d → ds.length = n := by exact runF_len) (hX : ∀ ds d, Xf ds = some d → ds.length = n := by exact runR_len) :
    QS X (W ++ V) (.Try (.Expr (.Call (.Name x p) (e :: es) [] cpos) epos :: rest) [.ExceptHandler (some (.Name y np)) none (b₀ :: suite) hpos] [] [] pos) (sTry1 F Xf m b hnd) := by
  have key := ps_try_only (X := X) (x := y) (c := c) (body := .Expr (.Call (.Name x p) (e :: es) [] cpos) epos :: rest) (suite := suite) (b₀ := b₀) (np := np) (pos := pos) (pos' := hpos) (Wout := fun _ _ _ _ => False)
    (tb := fun Wx => tSeq (tDrop (tCallS (spE X.K cm F Xf n) (WE Wx) (tMA X.K m))) (tMS X.K W b)) (ts := fun _ _ _ => tMS X.K V hnd) hs hf hn takes0
    (fun Wx pn xe tk _ => pss_cons (ps_expr (pe_callS (X := X.tr pn xe) (E := WE Wx) FO hr hg hm hk hb (fun σ => passAt tk σ) (ha pn xe) hdb hst hpl) hsw) (hbd pn xe))
    (fun a oe cls d pn _ _ => hsu a _)
  refine PS.imp key fun D σ H h => ?_
  obtain ⟨R, G, ρ, fl, ρ', rp, e, kk⟩ := h
  unfold sTry1 at e
  rw [Option.bind_eq_some_iff] at e
  obtain ⟨⟨ds, ρ1⟩, h1, e⟩ := e
  simp only at e
  refine ⟨R, G, ρ, ds, ρ1, rp, h1, fun G1 H1 v1 s1 r1 d1 => ?_⟩
  cases hx : Xf ds with
  | some z =>
    rw [hx] at e
    refine .inr ⟨by rw [d1.length]; exact hX _ _ hx, G1, ds, z, r1.subG, d1, hx, fun G2 H2 g2 => ?_⟩
    refine ⟨true, hall ds z hx, fun _ a na => ?_, fun z => by cases z⟩
    exact ⟨R, G2, ρ1, fl, ρ', r1.grow g2, e, flQ_mono kk (s1.trans g2.gg) fun σ' z => z.mono fun j hj => List.mem_append_right _ hj⟩
  | none =>
    rw [hx] at e
    simp only at e
    rw [Option.bind_eq_some_iff] at e
    obtain ⟨d, h2, e⟩ := e
    refine .inl ⟨by rw [d1.length]; exact hF _ _ h2, G1, ds, d, r1.subG, d1, h2, fun G2 H2 v2 g2 d2 => ?_⟩
    exact ⟨R, G2, ρ1, fl, ρ', r1.grow g2, e, flQ_mono kk (s1.trans g2.gg) fun σ' z => z.mono fun j hj => List.mem_append_left _ hj⟩
end
end QL
set_option Elab.async false
set_option linter.all false
set_option maxRecDepth 100000
set_option maxHeartbeats 1000000
namespace QL
open PySem PySem.Spec PyProof.Rows L2
section
variable {X : Cx} {pos : Pos} {K : Fr}
/-! ### a, b, c, d = w, x, y, z: a tuple is made and taken apart -/
def sPar4 (i j l m : Nat) (as : M (List Sl)) : MS := fun ρ => (as ρ).bind fun p => match p.1 with
  | [w, x, y, z] => if noScr w && noScr x && noScr y && noScr z && decide (j < p.2.length) && decide (l < p.2.length) && decide (m < p.2.length) then some (.nx, (((p.2.set i w).set j x).set l y).set m z) else none
  | _ => none
theorem qs_par4 {i j l q : Nat} {x y z u : Str} {a b c d : Expr} {m : M (List Sl)} {px py pz pu pt : Pos} {kt k2 pt2} (hN : X.N.Nodup) (ha : QX X [a, b, c, d] m) (hc : X.calm = true := by rfl) (hi : X.N[i]? = some x := by rfl) (hj : X.N[j]? = some y := by rfl) (hl : X.N[l]? = some z := by rfl) (hq : X.N[q]? = some u := by rfl)
    (hij : i ≠ j := by decide) (hil : i ≠ l := by decide) (hiq : i ≠ q := by decide) (hjl : j ≠ l := by decide) (hjq : j ≠ q := by decide) (hlq : l ≠ q := by decide)
    (hx : X.env.scope.names.lookup x = some .local := by rfl) (hy : X.env.scope.names.lookup y = some .local := by rfl) (hz : X.env.scope.names.lookup z = some .local := by rfl) (hu : X.env.scope.names.lookup u = some .local := by rfl)
    (hlx : Loc X.env.scope x := by first | exact Or.inl rfl | exact Or.inr rfl) (hly : Loc X.env.scope y := by first | exact Or.inl rfl | exact Or.inr rfl) (hlz : Loc X.env.scope z := by first | exact Or.inl rfl | exact Or.inr rfl) (hlu : Loc X.env.scope u := by first | exact Or.inl rfl | exact Or.inr rfl)
    (hw : swappedStores [.Tuple [.Name x px, .Name y py, .Name z pz, .Name u pu] kt pt] (.Tuple [a, b, c, d] k2 pt2) X.env = pure none := by rfl)
    (hs : swapsWithSole [.Tuple [.Name x px, .Name y py, .Name z pz, .Name u pu] kt pt] (.Tuple [a, b, c, d] k2 pt2) pos.line X.env = pure false := by rfl) :
    QS X [i, j, l, q] (.Assign [.Tuple [.Name x px, .Name y py, .Name z pz, .Name u pu] kt pt] (.Tuple [a, b, c, d] k2 pt2) pos) (sPar4 i j l q m) := by
  refine PS.imp (ps_asg (pe_tup ha) (pg_tup hc (pgs_cons (pg_name hN hi hlx (.inr hx)) (pgs_cons (pg_name hN hj hly (.inr hy)) (pgs_cons (pg_name hN hl hlz (.inr hz)) (pgs_cons (pg_name hN hq hlu (.inr hu)) pgs_nil))))) hs hw) fun E σ H h => ?_
  obtain ⟨R, G, ρ, f, ρ', rp, e, k⟩ := h
  unfold sPar4 at e
  rw [Option.bind_eq_some_iff] at e
  obtain ⟨⟨ss, ρ1⟩, h1, e⟩ := e
  refine ⟨R, G, ρ, ss, ρ1, rp, h1, fun G1 H1 vs s1 l1 r1 => ?_⟩
  match ss, vs, l1, e with
  | [s, t, o, n], [v, w, p, g], _, e =>
    simp only at e
    split at e
    · rename_i hb
      cases e
      simp only [Bool.and_eq_true, decide_eq_true_eq] at hb
      obtain ⟨⟨⟨⟨⟨⟨n1, n2⟩, n3⟩, n4⟩, hjl'⟩, hll'⟩, hql'⟩ := hb
      have hl := r1.len
      have hlen : ρ1.length = σ.length := by simp at hl; exact hl
      refine ⟨(show 4 ≤ sizeLine by decide), fun ad had => ?_⟩
      refine ⟨ad, _, rfl, SqT.of upd_same, rfl, _, _, rfl, _, _, rfl, _, _, rfl, _, _, rfl, rfl, ?_⟩
      have r1' := r1.grow (Gr.junk (o := .tup [v, w, p, g]) r1.subG had)
      refine k G1 _ _ s1 ?_ (fun y hy => by rw [List.getElem?_set_ne fun z => hy (by simp [z]), List.getElem?_set_ne fun z => hy (by simp [z]), List.getElem?_set_ne fun z => hy (by simp [z]), List.getElem?_set_ne fun z => hy (by simp [z])])
      have r2 : Rep X.K R G1 (upd H1 ad (.tup [v, w, p, g])) ((((ρ1 ++ [s]) ++ [t]) ++ [o]) ++ [n]) ((((σ ++ [some v]) ++ [some w]) ++ [some p]) ++ [some g]) := by simpa using r1'
      have r3 := Rep.move (by simp [hlen]) (noScr_ne n4) r2 q
      rw [List.set_append_left _ _ (by first | omega | (simp; omega)), List.set_append_left _ _ (by first | omega | (simp; omega)), List.set_append_left _ _ (by first | omega | (simp; omega)), List.set_append_left _ _ (by first | omega | (simp; omega)), List.set_append_left _ _ (by first | omega | (simp; omega)), List.set_append_left _ _ (by first | omega | (simp; omega))] at r3
      have r4 := Rep.move (by simp [hlen]) (noScr_ne n3) r3 l
      rw [List.set_append_left _ _ (by first | omega | (simp; omega)), List.set_append_left _ _ (by first | omega | (simp; omega)), List.set_append_left _ _ (by first | omega | (simp; omega)), List.set_append_left _ _ (by first | omega | (simp; omega))] at r4
      have r5 := Rep.move (by simp [hlen]) (noScr_ne n2) r4 j
      rw [List.set_append_left _ _ (by first | omega | (simp; omega)), List.set_append_left _ _ (by first | omega | (simp; omega))] at r5
      have r6 := Rep.move (by simp [hlen]) (noScr_ne n1) r5 i
      have c1 : (((ρ1.set i s).set j t).set l o).set q n = (((ρ1.set q n).set l o).set j t).set i s := by
        rw [List.set_comm _ _ hij, List.set_comm _ _ hil, List.set_comm _ _ hiq, List.set_comm _ _ hjl, List.set_comm _ _ hjq, List.set_comm _ _ hlq]
      have c2 : (((σ.set i (some v)).set j (some w)).set l (some p)).set q (some g) = (((σ.set q (some g)).set l (some p)).set j (some w)).set i (some v) := by
        rw [List.set_comm _ _ hij, List.set_comm _ _ hil, List.set_comm _ _ hiq, List.set_comm _ _ hjl, List.set_comm _ _ hjq, List.set_comm _ _ hlq]
      rw [c1, c2]
      exact r6
    · cases e
  | [], _, _, e => cases e
  | [_], _, _, e => cases e
  | [_, _], _, _, e => cases e
  | [_, _, _], _, _, e => cases e
  | _ :: _ :: _ :: _ :: _ :: _, _, _, e => cases e
/-! ### a tuple times one is itself -/
theorem tuple_mul1 (l : Addr) (items : Array Value) (n : Nat) (dd : Option Addr) (sl : Array (Option Value)) (u : Tok) :
    Meets (Builtin.«tuple.__mul__» ⟨[.ref l, .int 1 u], []⟩) (fun _ R s => s.heap.get? l = some { cls := .type "tuple", dict := dd, data := .seq items n, slots := sl } ∧
      R (.ok (.ret (Value.ref l))) s) :=
  .of_wp fun prog w A R s h => by
    obtain ⟨hp, g, d, tk, os⟩ := s
    obtain ⟨hl, h⟩ := h
    have f1 := AutoSeq1.idx_int
    wp_walk using wpAny_loadPart' hl
    repeat (first
      | (refine wpAny_ite_false (by decide) ?_; wp_walk using wpAny_loadPart' hl)
      | (refine wpAny_ite_true (by simp) ?_; wp_walk using wpAny_loadPart' hl))
    exact ⟨_, rfl, h⟩
def rRepT1 (K : PySem.W.Frag) : R2 := fun x y H Q => ∃ l xs, x = .ref l ∧ y = .int 1 ∧ SqT K H l xs ∧ Q (.ref l) H
theorem op_repT1 : OpR X (binaryOp .Mult) (rRepT1 X.K) := by
  intro pins s σ H x y v u Q I rx ry h
  obtain ⟨l, xs, rfl, rfl, hT, q⟩ := h
  cases rx
  obtain ⟨t, rfl⟩ := ry
  obtain ⟨its, r, ⟨⟨cls, dd, data, sl⟩, ho, hc, n, hd⟩, hs⟩ := I.tuple hT
  simp only at hc hd
  subst hc hd
  refine wpAny_binaryOp_repeat_ref (T := "tuple") (U := "int") (by decide) ⟨_, ho, rfl⟩ (fun s' => typeIs_int s' 1 t) noFill_tuple_mul F.fills_int_mul F.slot_int_rmul repeat_tuple F.slot_int_index.lookup
    (call_meets F.slot_int_rmul (typeIs_int s 1 t) F.entry_int_rmul (F.args_int_rmul_2 _ _) (int_rmul_tuple 1 t l its.toArray n dd sl)
      ⟨ho, rfl, ⟨_, ho, rfl⟩, call_meets F.slot_tuple_mul ⟨_, ho, rfl⟩ F.entry_tuple_mul (F.args_tuple_mul_2 _ _) (tuple_mul1 l its.toArray n dd sl t) ⟨ho, ?_⟩⟩)
  exact ⟨.ref l, H, I, rfl, q⟩
/-- a tuple times a number -/
def dMulT : D → D → Option D
  | .tuple a, .int k => if a ≠ [] ∧ 1 ≤ k ∧ k ≤ 1000 ∧ a.length ≤ 1000 then some (.tuple (List.replicate k.toNat a).flatten) else none
  | _, _ => none
abbrev rMulT (K : Fr) : R2 := fun x y H Q => rRepT1 K x y H Q ∨ rRepT K x y H Q
theorem op_mulT : OpR X (binaryOp .Mult) (rMulT X.K) := op_repT1.or op_repT
theorem d_mulT : OpD K (rMulT K) dMulT := by
  intro G H x y dx dy d Q s hx hy e k
  unfold dMulT at e
  split at e
  · split at e
    · rename_i a i hl
      cases e
      cases hx with
      | tup h1 a1 =>
        cases hy
        by_cases h1' : i = 1
        · subst h1'
          refine .inl ⟨_, _, rfl, rfl, SqT_mono s h1, k _ _ _ (Gr.refl s) ?_⟩
          simpa using Dq.tup h1 a1
        · refine .inr ⟨_, _, _, rfl, rfl, SqT_mono s h1, fun z => ?_, by omega, hl.2.2.1, by rw [a1.length]; exact hl.2.2.2, fun p hp => k _ _ _ (Gr.new s hp) ?_⟩
          · subst z; cases a1; exact hl.1 rfl
          · exact .tup (SqT.of upd_same) (DqAll_mono (Gr.new s hp).gg (a1.rep _))
    · cases e
  · cases e
theorem qe_mulT {a b : Expr} {m n : M D} (ha : QE X a m) (hb : QE X b n) : QE X (.BinOp a .Mult b pos) (eOp2 dMulT m n) := qe_op op_mulT d_mulT ha hb
end
end QL
set_option Elab.async false
set_option linter.all false
set_option maxRecDepth 100000
set_option maxHeartbeats 1000000
namespace QL
open PySem PySem.Spec PyProof.Rows RZ PySem.W PyProof.V PySem.Calls
/-! ### list(zip(a, b)): the tuples handed out stay alive in the list -/
abbrev IsZipO (h : Heap) (z TI TO T : Addr) (f : Bool) : Prop := h.get? z = some { cls := .type "zip", dict := none, data := .fields #[rawInt T, .bool f, .bool false, .ref TI, .ref TO], slots := #[] }
section
variable {prog : Program} {w : World} {A : Around} {E : Value → Shared → Prop} {s : Shared} {z TI TO T i1 i2 : Addr} {f : Bool} {oT : Obj} {fp1 fp2 : List Addr} {n1 n2 i : Nat} {P1 P2 : Nat → Value → Prop} {St1 St2 : Nat → Heap → Prop}
theorem zl_free (hz : IsZipO s.heap z TI TO T f) (hT : s.heap.get? T = some oT) {Q : Bool → Shared → Prop} (h : ∀ h', IsZipO h' z TI TO T true → Heap.SameBut z s.heap h' → Q false { s with heap := h' }) :
    wpAny (model prog w) A (Builtin.SmallTypes.ownedTupleIsFree (.ref z)) Q E s := by
  unfold Builtin.SmallTypes.ownedTupleIsFree
  refine wpAny_bind (wpAny_field hz rfl (x := rawInt T) rfl ?_)
  show wpAny _ _ (loadIfAlive ((T : Int).toNat) >>= _) _ _ _
  rw [Int.toNat_natCast]
  refine wpAny_bind (kdx_alive hT ?_)
  simp only [Option.isNone_some, Bool.false_eq_true, if_false]
  refine wpAny_bind (wpAny_field hz rfl (x := .bool f) rfl ?_)
  cases f with
  | true =>
    rw [if_neg (show ¬ ((Value.bool true != Value.bool true) = true) from Bool.false_ne_true)]
    exact wpAny_pure (h _ hz (Heap.SameBut.refl _ _))
  | false =>
    rw [if_pos (show (Value.bool false != Value.bool true) = true from rfl)]
    refine wpAny_bind (wpAny_setField_rec hz (by simp) fun h₃ he₃ hs₃ => ?_)
    exact wpAny_pure (h h₃ he₃ hs₃)
theorem zl_next_item {Q : Value → Shared → Prop} (S : ZipSep2 z TI TO i1 i2 fp1 fp2) (D1 : Draws prog w A i1 fp1 n1 P1 St1) (D2 : Draws prog w A i2 fp2 n2 P2 St2)
    (hz : IsZipO s.heap z TI TO T f) (hT : s.heap.get? T = some oT) (hTI : IsTupOf2 s.heap TI (.ref i1) (.ref i2)) (st1 : St1 i s.heap) (st2 : St2 i s.heap) (hlt1 : i < n1) (hlt2 : i < n2)
    (hQ : ∀ x1 x2 h' tk, P1 i x1 → P2 i x2 → IsZipO h' z TI TO T true → St1 (i + 1) h' → St2 (i + 1) h' → IsTupOf2 h' s.heap.objs.size x1 x2 → h'.objs.size = s.heap.objs.size + 1 →
      (∀ c o, c ≠ z → c ≠ i1 → c ≠ i2 → s.heap.get? c = some o → h'.get? c = some o) → Q (.ref s.heap.objs.size) { s with heap := h', toks := tk }) :
    wpAny (model prog w) A (Builtin.«zip.__next__» ⟨[.ref z], []⟩) (fun fin s' => ∃ v, fin = .done (.ret v) ∧ Q v s') E s := by
  obtain ⟨hp, g, d, tk0, os⟩ := s
  show wpAny _ _ (field (.ref z) 2 >>= _) _ _ _
  refine wpAny_bind (wpAny_field hz rfl (x := .bool false) rfl ?_)
  show wpAny _ _ (field (.ref z) 3 >>= _) _ _ _
  refine wpAny_bind (wpAny_field hz rfl (x := .ref TI) rfl ?_)
  refine wpAny_bind (wpAny_seqItems hTI rfl ?_)
  show wpAny _ _ (Builtin.SmallTypes.ownedTupleIsFree (.ref z) >>= _) _ _ _
  refine wpAny_bind (zl_free hz hT fun g0 hz0 hs0 => ?_)
  replace hs0 : Heap.SameBut z hp g0 := hs0
  simp only [Bool.false_eq_true, if_false]
  refine wpAny_bind ?_
  simp only [List.forIn_toArray, List.forIn_cons, List.forIn_nil]
  refine wpAny_bind (wpAny_bind (wpAny_holding ?_))
  show wpAny _ _ (Builtin.SmallTypes.nextOf (.ref i1) >>= _) _ _ ⟨g0, g, d, tk0, os⟩
  refine wpAny_bind (D1.item i _ _ _ hlt1 (D1.over st1 hs0 S.zf1) fun x1 p1 tk1 hx1 sn1 hp1 => wpAny_pure ?_)
  replace hp1 : Heap.SameBut i1 g0 p1 := hp1
  refine wpAny_pure ?_
  refine wpAny_bind (wpAny_bind (wpAny_holding ?_))
  show wpAny _ _ (Builtin.SmallTypes.nextOf (.ref i2) >>= _) _ _ ⟨p1, g, d, tk1, os⟩
  refine wpAny_bind (D2.item i _ _ _ hlt2 (D2.over (D2.over st2 hs0 S.zf2) hp1 S.sep1_2) fun x2 p2 tk2 hx2 sn2 hp2 => wpAny_pure ?_)
  replace hp2 : Heap.SameBut i2 p1 p2 := hp2
  refine wpAny_pure (wpAny_pure ?_)
  refine wpAny_bind (wpAny_newTuple (hsz := by show 2 ≤ sizeLine; decide) ?_)
  have hsz : p2.objs.size = hp.objs.size := by rw [hp2.1, hp1.1, hs0.1]
  have hkk : ∀ c o, c ≠ z → c ≠ i1 → c ≠ i2 → hp.get? c = some o → p2.get? c = some o := fun c o cz c1 c2 e => hp2.extBut _ _ c2 (hp1.extBut _ _ c1 (hs0.extBut _ _ cz e))
  refine wpAny_pure ⟨_, rfl, ?_⟩
  show Q (.ref p2.objs.size) ⟨p2.push { cls := .type "tuple", data := .seq #[x1, x2] }, g, d, tk2, os⟩
  have hz2 : IsZipO p2 z TI TO T true := hp2.extBut _ _ S.zi2 (hp1.extBut _ _ S.zi1 hz0)
  have hnew : IsTupOf2 (p2.push { cls := .type "tuple", data := .seq #[x1, x2] }) p2.objs.size x1 x2 := Heap.get?_push_size _ rfl
  have push : ∀ c o, p2.get? c = some o → (p2.push { cls := .type "tuple", data := .seq #[x1, x2] }).get? c = some o := fun c o e => Heap.get?_push_of_some _ e
  rw [hsz] at hnew ⊢
  exact hQ x1 x2 _ tk2 hx1 hx2 (push _ _ hz2) (D1.frame _ _ _ (D1.over sn1 hp2 S.sep2_1) fun b _ o e => push b o e) (D2.frame _ _ _ sn2 fun b _ o e => push b o e) hnew (by rw [Heap.size_push, hsz]) fun c o cz c1 c2 e => push c o (hkk c o cz c1 c2 e)
theorem zl_next_end {Q : Fin → Shared → Prop} (S : ZipSep2 z TI TO i1 i2 fp1 fp2) (D1 : Draws prog w A i1 fp1 n1 P1 St1) (D2 : Draws prog w A i2 fp2 n2 P2 St2)
    (hz : IsZipO s.heap z TI TO T f) (hT : s.heap.get? T = some oT) (hTI : IsTupOf2 s.heap TI (.ref i1) (.ref i2)) (st1 : St1 i s.heap) (st2 : St2 i s.heap) (hle1 : i ≤ n1) (hle2 : i ≤ n2) (hend : i = n1 ∨ i = n2)
    (hE : ∀ h' tk e, (∀ c o, c ≠ z → c ≠ i1 → c ≠ i2 → s.heap.get? c = some o → h'.get? c = some o) → (∃ o, h'.get? e = some o ∧ o.cls = .type "StopIteration") → E (.ref e) { s with heap := h', toks := tk }) :
    wpAny (model prog w) A (Builtin.«zip.__next__» ⟨[.ref z], []⟩) Q E s := by
  obtain ⟨hp, g, d, tk0, os⟩ := s
  show wpAny _ _ (field (.ref z) 2 >>= _) _ _ _
  refine wpAny_bind (wpAny_field hz rfl (x := .bool false) rfl ?_)
  show wpAny _ _ (field (.ref z) 3 >>= _) _ _ _
  refine wpAny_bind (wpAny_field hz rfl (x := .ref TI) rfl ?_)
  refine wpAny_bind (wpAny_seqItems hTI rfl ?_)
  show wpAny _ _ (Builtin.SmallTypes.ownedTupleIsFree (.ref z) >>= _) _ _ _
  refine wpAny_bind (zl_free hz hT fun g0 hz0 hs0 => ?_)
  replace hs0 : Heap.SameBut z hp g0 := hs0
  simp only [Bool.false_eq_true, if_false]
  refine wpAny_bind ?_
  simp only [List.forIn_toArray, List.forIn_cons, List.forIn_nil]
  refine wpAny_bind (wpAny_bind (wpAny_holding ?_))
  show wpAny _ _ (Builtin.SmallTypes.nextOf (.ref i1) >>= _) _ _ ⟨g0, g, d, tk0, os⟩
  by_cases hlt1 : i < n1
  · refine wpAny_bind (D1.item i _ _ _ hlt1 (D1.over st1 hs0 S.zf1) fun x1 p1 tk1 hx1 sn1 hp1 => wpAny_pure ?_)
    replace hp1 : Heap.SameBut i1 g0 p1 := hp1
    refine wpAny_pure ?_
    refine wpAny_bind (wpAny_bind (wpAny_holding ?_))
    show wpAny _ _ (Builtin.SmallTypes.nextOf (.ref i2) >>= _) _ _ ⟨p1, g, d, tk1, os⟩
    have hi2 : i = n2 := by omega
    refine wpAny_bind (D2.done ⟨p1, g, d, tk1, os⟩ _ _ (by rw [← hi2]; exact D2.over (D2.over st2 hs0 S.zf2) hp1 S.sep1_2) fun q e hq he => ?_)
    replace hq : Heap.ExtBut i2 p1 q := hq
    exact hE q tk1 e (fun c o cz c1 c2 x => hq _ _ c2 (hp1.extBut _ _ c1 (hs0.extBut _ _ cz x))) he
  · have hi1 : i = n1 := by omega
    refine wpAny_bind (D1.done ⟨g0, g, d, tk0, os⟩ _ _ (by rw [← hi1]; exact D1.over st1 hs0 S.zf1) fun q e hq he => ?_)
    replace hq : Heap.ExtBut i1 g0 q := hq
    exact hE q tk0 e (fun c o cz c1 c2 x => hq _ _ c1 (hs0.extBut _ _ cz x)) he
theorem zl_item {Q : Option Value → Shared → Prop} (S : ZipSep2 z TI TO i1 i2 fp1 fp2) (D1 : Draws prog w A.in1 i1 fp1 n1 P1 St1) (D2 : Draws prog w A.in1 i2 fp2 n2 P2 St2)
    (hz : IsZipO s.heap z TI TO T f) (hT : s.heap.get? T = some oT) (hTI : IsTupOf2 s.heap TI (.ref i1) (.ref i2)) (st1 : St1 i s.heap) (st2 : St2 i s.heap) (hlt1 : i < n1) (hlt2 : i < n2)
    (hQ : ∀ x1 x2 h' tk, P1 i x1 → P2 i x2 → IsZipO h' z TI TO T true → St1 (i + 1) h' → St2 (i + 1) h' → IsTupOf2 h' s.heap.objs.size x1 x2 → h'.objs.size = s.heap.objs.size + 1 →
      (∀ c o, c ≠ z → c ≠ i1 → c ≠ i2 → s.heap.get? c = some o → h'.get? c = some o) → Q (some (.ref s.heap.objs.size)) { s with heap := h', toks := tk }) :
    wpAny (model prog w) A (pyNext (.ref z)) Q E s := by
  have hTy : s.TypeIs (.ref z) "zip" := ⟨_, hz, rfl⟩
  unfold pyNext
  exact wpAny_bind (wpAny_attempt (wpAny_callSpecial?_slot (name := Str.ofString "__next__") hTy F.slot_zip_next
    (wpAny_call_entry F.slot_zip_next hTy F.entry_zip_next
      (zl_next_item S D1 D2 hz hT hTI st1 st2 hlt1 hlt2 fun x1 x2 h' tk y1 y2 b1 d1 d2 b5 b6 b7 => wpAny_pure (hQ x1 x2 h' tk y1 y2 b1 d1 d2 b5 b6 b7)) (F.args_zip_next_1 _))))
theorem zl_end {Q : Option Value → Shared → Prop} (S : ZipSep2 z TI TO i1 i2 fp1 fp2) (D1 : Draws prog w A.in1 i1 fp1 n1 P1 St1) (D2 : Draws prog w A.in1 i2 fp2 n2 P2 St2)
    (hz : IsZipO s.heap z TI TO T f) (hT : s.heap.get? T = some oT) (hTI : IsTupOf2 s.heap TI (.ref i1) (.ref i2)) (st1 : St1 i s.heap) (st2 : St2 i s.heap) (hle1 : i ≤ n1) (hle2 : i ≤ n2) (hend : i = n1 ∨ i = n2)
    (hQ : ∀ h' tk, (∀ c o, c ≠ z → c ≠ i1 → c ≠ i2 → s.heap.get? c = some o → h'.get? c = some o) → Q none { s with heap := h', toks := tk }) : wpAny (model prog w) A (pyNext (.ref z)) Q E s := by
  have hTy : s.TypeIs (.ref z) "zip" := ⟨_, hz, rfl⟩
  unfold pyNext
  refine wpAny_bind (wpAny_attempt (wpAny_callSpecial?_slot (name := Str.ofString "__next__") hTy F.slot_zip_next
    (wpAny_call_entry F.slot_zip_next hTy F.entry_zip_next (zl_next_end S D1 D2 hz hT hTI st1 st2 hle1 hle2 hend fun h' tk e hk he => ?_) (F.args_zip_next_1 _))))
  obtain ⟨o, ho, hc⟩ := he
  refine wpAny_bind (wpAny_isInstance (T := "StopIteration") (b := true) ⟨o, ho, hc⟩ isSubtype_stop ?_)
  exact wpAny_pure (hQ _ _ hk)
/-- the zip's state while its tuples go into the list S -/
def ZlSt (h : Heap) (z TI TO i1 i2 S : Addr) : Prop := IsTupOf2 h TI (.ref i1) (.ref i2) ∧ ((IsZip h z TI TO .none ∧ ∃ a1 a2, IsTupOf2 h TO a1 a2) ∨ ∃ T f oT, IsZipO h z TI TO T f ∧ h.get? T = some oT ∧ T ≠ z ∧ T ≠ TO ∧ T ≠ i1 ∧ T ≠ i2 ∧ T ≠ S)
theorem ZlSt.keep {h h' : Heap} {S : Addr} (x : ZlSt h z TI TO i1 i2 S) (hk : ∀ b o, b ≠ S → h.get? b = some o → h'.get? b = some o) (h1 : z ≠ S) (h2 : TI ≠ S) (h3 : TO ≠ S) : ZlSt h' z TI TO i1 i2 S := by
  obtain ⟨a, b⟩ := x
  refine ⟨hk _ _ h2 a, ?_⟩
  rcases b with ⟨b, a1, a2, c⟩ | ⟨T, f, oT, b, c, d⟩
  · exact .inl ⟨hk _ _ h1 b, a1, a2, hk _ _ h3 c⟩
  · exact .inr ⟨T, f, oT, hk _ _ h1 b, hk _ _ d.2.2.2.2 c, d⟩
theorem zl_step {S : Addr} {Q : Option Value → Shared → Prop} (Z : ZipSep2 z TI TO i1 i2 fp1 fp2) (D1 : Draws prog w A.in1 i1 fp1 n1 P1 St1) (D2 : Draws prog w A.in1 i2 fp2 n2 P2 St2)
    (hst : ZlSt s.heap z TI TO i1 i2 S) (hS : S < s.heap.objs.size) (hi1 : i1 < s.heap.objs.size) (hi2 : i2 < s.heap.objs.size) (st1 : St1 i s.heap) (st2 : St2 i s.heap) (hlt1 : i < n1) (hlt2 : i < n2)
    (hQ : ∀ x1 x2 h' tk, P1 i x1 → P2 i x2 → ZlSt h' z TI TO i1 i2 S → St1 (i + 1) h' → St2 (i + 1) h' → IsTupOf2 h' s.heap.objs.size x1 x2 → h'.objs.size = s.heap.objs.size + 1 →
      (∀ c o, c ≠ z → c ≠ TO → c ≠ i1 → c ≠ i2 → s.heap.get? c = some o → h'.get? c = some o) → Q (some (.ref s.heap.objs.size)) { s with heap := h', toks := tk }) :
    wpAny (model prog w) A (pyNext (.ref z)) Q E s := by
  obtain ⟨hTI, b⟩ := hst
  rcases b with ⟨hz, a1, a2, hTO⟩ | ⟨T, f, oT, hz, hT, t1, t2, t3, t4, t5⟩
  · have hzl : z < s.heap.objs.size := Heap.lt_size hz
    have hTl : TO < s.heap.objs.size := Heap.lt_size hTO
    exact wpAny_pyNext_zipD2_item Z D1 D2 hz hTI hTO st1 st2 hlt1 hlt2 fun x1 x2 h' tk p1 p2 k1 k2 k3 k4 k5 k6 k7 =>
      hQ x1 x2 h' tk p1 p2 ⟨k7 _ _ Z.TIz Z.TITO Z.TIi1 Z.TIi2 hTI, .inr ⟨_, false, _, k1, k5, Nat.ne_of_gt hzl, Nat.ne_of_gt hTl, Nat.ne_of_gt hi1, Nat.ne_of_gt hi2, Nat.ne_of_gt hS⟩⟩ k3 k4 k5 k6 k7
  · exact zl_item Z D1 D2 hz hT hTI st1 st2 hlt1 hlt2 fun x1 x2 h' tk p1 p2 k1 k3 k4 k5 k6 k7 =>
      hQ x1 x2 h' tk p1 p2 ⟨k7 _ _ Z.TIz Z.TIi1 Z.TIi2 hTI, .inr ⟨T, true, oT, k1, k7 _ _ t1 t3 t4 hT, t1, t2, t3, t4, t5⟩⟩ k3 k4 k5 k6 fun c o c1 _ c3 c4 e => k7 c o c1 c3 c4 e
theorem zl_stop {S : Addr} {Q : Option Value → Shared → Prop} (Z : ZipSep2 z TI TO i1 i2 fp1 fp2) (D1 : Draws prog w A.in1 i1 fp1 n1 P1 St1) (D2 : Draws prog w A.in1 i2 fp2 n2 P2 St2)
    (hst : ZlSt s.heap z TI TO i1 i2 S) (st1 : St1 i s.heap) (st2 : St2 i s.heap) (hle1 : i ≤ n1) (hle2 : i ≤ n2) (hend : i = n1 ∨ i = n2)
    (hQ : ∀ h' tk, (∀ c o, c ≠ z → c ≠ TO → c ≠ i1 → c ≠ i2 → s.heap.get? c = some o → h'.get? c = some o) → Q none { s with heap := h', toks := tk }) : wpAny (model prog w) A (pyNext (.ref z)) Q E s := by
  obtain ⟨hTI, b⟩ := hst
  rcases b with ⟨hz, a1, a2, hTO⟩ | ⟨T, f, oT, hz, hT, _⟩
  · exact wpAny_pyNext_zipD2_end Z D1 D2 hz hTI hTO st1 st2 hle1 hle2 hend hQ
  · exact zl_end Z D1 D2 hz hT hTI st1 st2 hle1 hle2 hend fun h' tk k => hQ h' tk fun c o c1 _ c3 c4 e => k c o c1 c3 c4 e
end
theorem zip_no_len : typeLookup (.type "zip") "__len__" = pure none := by rw [typeLookup_type, builtinLookup_eq_fast]; kernel_rfl
theorem zip_no_hint : typeLookup (.type "zip") "__length_hint__" = pure none := by rw [typeLookup_type, builtinLookup_eq_fast]; kernel_rfl
structure ZlG (P1 P2 : Nat → Value → Prop) (lo : Addr) (h : Heap) (as : List Addr) : Prop where
  rise : as.Pairwise (· < ·)
  above : ∀ a ∈ as, lo < a
  pairs : ∀ (j : Nat) (a : Addr), as[j]? = some a → ∃ x1 x2, P1 j x1 ∧ P2 j x2 ∧ h.get? a = some { cls := .type "tuple", data := .seq #[x1, x2] }
section
variable {prog : Program} {w : World} {A : Around} {E : Value → Shared → Prop} {s : Shared} {z TI TO i1 i2 : Addr} {fp1 fp2 : List Addr} {n1 n2 : Nat} {P1 P2 : Nat → Value → Prop} {St1 St2 : Nat → Heap → Prop} {R : Result → Shared → Prop}
theorem ZlG.there {lo : Addr} {h : Heap} {as : List Addr} (g : ZlG P1 P2 lo h as) {a : Addr} (ha : a ∈ as) : a < h.objs.size := by
  obtain ⟨j, hj⟩ := List.mem_iff_getElem?.mp ha
  obtain ⟨_, _, _, _, e⟩ := g.pairs j a hj
  exact Heap.lt_size e
theorem zl_loop {S : Addr} {m : Nat} (Z : ZipSep2 z TI TO i1 i2 fp1 fp2) (D1 : Draws prog w A.in1.in1 i1 fp1 n1 P1 St1) (D2 : Draws prog w A.in1.in1 i2 fp2 n2 P2 St2) (m1 : m ≤ n1) (m2 : m ≤ n2) (m3 : m = n1 ∨ m = n2)
    (lz : z < S) (lTI : TI < S) (lTO : TO < S) (l1 : i1 < S) (l2 : i2 < S) (f1 : S ∉ fp1) (f2 : S ∉ fp2) (hn : m ≤ sizeLine) (res : Value) {h₁ : Heap}
    (hR : ∀ h' tk acc c as, (∀ b o, b ≠ S → b ≠ z → b ≠ TO → b ≠ i1 → b ≠ i2 → h₁.get? b = some o → h'.get? b = some o) → h'.get? S = some { cls := .type "list", dict := none, data := .seq acc c, slots := #[] } → as.length = m → ZlG P1 P2 S h' as →
      acc.toList = as.map Value.ref → R (.ok (.ret res)) { s with heap := h', toks := tk }) :
    ∀ (k i : Nat) (h : Heap) (tk c : Nat) (acc : Array Value) (as : List Addr), m - i = k → i ≤ m → ZlSt h z TI TO i1 i2 S → St1 i h → St2 i h → (∀ b o, b ≠ S → b ≠ z → b ≠ TO → b ≠ i1 → b ≠ i2 → h₁.get? b = some o → h.get? b = some o) →
      h.get? S = some { cls := .type "list", dict := none, data := .seq acc c, slots := #[] } → acc.toList = as.map Value.ref → as.length = i → ZlG P1 P2 S h as →
      codeAny (model prog w) A (.builtin "list.extend.loop" ⟨[.ref S, .ref z, res], []⟩) R { s with heap := h, toks := tk } := by
  intro k
  induction k with
  | zero =>
    intro i h tk c acc as hk hi hst st1 st2 hkeep hS hacc hal hG
    have him : i = m := by omega
    subst him
    refine codeAny_builtin PySem.F.entry_extend_loop ?_
    rw [Around.under_plainId PySem.F.plain_extend_loop _]
    show wpAny _ A.in1 (pyNext (.ref z) >>= _) _ _ _
    refine wpAny_bind (zl_stop (s := { s with heap := h, toks := tk }) (A := A.in1) Z D1 D2 hst st1 st2 m1 m2 m3 fun h' tk' he => ?_)
    refine wpAny_pure (hR h' tk' acc c as (fun b o h1 h2 h3 h4 h5 e => he b o h2 h3 h4 h5 (hkeep b o h1 h2 h3 h4 h5 e)) (he S _ (Nat.ne_of_gt lz) (Nat.ne_of_gt lTO) (Nat.ne_of_gt l1) (Nat.ne_of_gt l2) hS) hal ⟨hG.rise, hG.above, fun j a hj => ?_⟩ hacc)
    obtain ⟨x1, x2, e1, e2, e3⟩ := hG.pairs j a hj
    have la := hG.above a (List.mem_of_getElem? hj)
    exact ⟨x1, x2, e1, e2, he a _ (Nat.ne_of_gt (Nat.lt_trans lz la)) (Nat.ne_of_gt (Nat.lt_trans lTO la)) (Nat.ne_of_gt (Nat.lt_trans l1 la)) (Nat.ne_of_gt (Nat.lt_trans l2 la)) e3⟩
  | succ k ih =>
    intro i h tk c acc as hk hi hst st1 st2 hkeep hS hacc hal hG
    have hlt : i < m := by omega
    have hsz : acc.size = i := by rw [← Array.length_toList, hacc, List.length_map, hal]
    have hSl : S < h.objs.size := Heap.lt_size hS
    refine codeAny_builtin PySem.F.entry_extend_loop ?_
    rw [Around.under_plainId PySem.F.plain_extend_loop _]
    show wpAny _ A.in1 (pyNext (.ref z) >>= _) _ _ _
    refine wpAny_bind (zl_step (s := { s with heap := h, toks := tk }) (S := S) (A := A.in1) Z D1 D2 hst hSl (Nat.lt_trans l1 hSl) (Nat.lt_trans l2 hSl) st1 st2 (by omega) (by omega) fun x1 x2 h' tk' p1 p2 hst' s1' s2' ht hz hkp => ?_)
    dsimp only at ht hz hkp ⊢
    have hS' := hkp S _ (Nat.ne_of_gt lz) (Nat.ne_of_gt lTO) (Nat.ne_of_gt l1) (Nat.ne_of_gt l2) hS
    have up : ∀ b o, b ≠ S → h'.get? b = some o → (h'.update S (Obj.mapSeq (·.push (Value.ref h.objs.size)))).get? b = some o := fun b o hb e => (Heap.get?_update_other _ _ (Ne.symm hb)).trans e
    show wpAny _ A.in1 (updateSeq S (·.push (Value.ref h.objs.size)) >>= _) _ _ _
    refine wpAny_bind ?_
    refine wpAny_updateSeq hS' rfl (wpAny_pure ⟨plainId_quiet PySem.F.plain_extend_loop _, ih (i + 1) _ tk' _ (acc.push (Value.ref h.objs.size)) (as ++ [h.objs.size]) (by omega) hlt (hst'.keep up (Nat.ne_of_lt lz) (Nat.ne_of_lt lTI) (Nat.ne_of_lt lTO))
      (D1.frame _ _ _ s1' fun b hb o e => up b o (fun q => f1 (q ▸ hb)) e) (D2.frame _ _ _ s2' fun b hb o e => up b o (fun q => f2 (q ▸ hb)) e)
      (fun b o h1 h2 h3 h4 h5 e => up b o h1 (hkp b o h2 h3 h4 h5 (hkeep b o h1 h2 h3 h4 h5 e))) (Heap.get?_update_self _ hS' rfl) (by rw [Array.toList_push, hacc, List.map_append]; rfl) (by rw [List.length_append, hal]; rfl) ⟨?_, ?_, ?_⟩⟩) (by rw [hsz]; omega) (by show (acc.push (Value.ref h.objs.size)).size ≤ sizeLine + 1; rw [Array.size_push, hsz]; omega)
    · refine List.pairwise_append.mpr ⟨hG.rise, List.pairwise_singleton _ _, fun a ha b hb => ?_⟩
      rw [List.mem_singleton.mp hb]
      exact hG.there ha
    · intro a ha
      rcases List.mem_append.mp ha with ha | ha
      · exact hG.above a ha
      · rw [List.mem_singleton.mp ha]; exact hSl
    · intro j b hj
      rcases Nat.lt_trichotomy j as.length with h1 | h1 | h1
      · rw [List.getElem?_append_left h1] at hj
        obtain ⟨y1, y2, e1, e2, e3⟩ := hG.pairs j b hj
        have hb := hG.above b (List.mem_of_getElem? hj)
        exact ⟨y1, y2, e1, e2, up b _ (Nat.ne_of_gt hb) (hkp b _ (Nat.ne_of_gt (Nat.lt_trans lz hb)) (Nat.ne_of_gt (Nat.lt_trans lTO hb)) (Nat.ne_of_gt (Nat.lt_trans l1 hb)) (Nat.ne_of_gt (Nat.lt_trans l2 hb)) e3)⟩
      · subst h1
        have hb : h.objs.size = b := by simpa using hj
        subst hb
        exact ⟨x1, x2, by rw [hal]; exact p1, by rw [hal]; exact p2, up _ _ (Nat.ne_of_gt hSl) ht⟩
      · have hnone : (as ++ [h.objs.size])[j]? = none := List.getElem?_eq_none (by rw [List.length_append, List.length_singleton]; omega)
        rw [hnone] at hj; cases hj
theorem zl_hint (hT : s.TypeIs (.ref z) "zip") {Q : Bool → Shared → Prop} (h : Q true s) : wpAny (model prog w) A (Builtin.List.listLengthHint (.ref z)) Q E s := by
  unfold Builtin.List.listLengthHint
  refine wpAny_bind (wpAny_specialOf hT zip_no_len ?_)
  show wpAny _ _ (specialOf (Value.ref z) (Str.ofString "__length_hint__") >>= _) _ _ _
  refine wpAny_bind (wpAny_specialOf hT zip_no_hint ?_)
  exact wpAny_pure h
theorem zl_extend {S : Addr} {m : Nat} (Z : ZipSep2 z TI TO i1 i2 fp1 fp2) (D1 : Draws prog w A.in1.in1 i1 fp1 n1 P1 St1) (D2 : Draws prog w A.in1.in1 i2 fp2 n2 P2 St2) (m1 : m ≤ n1) (m2 : m ≤ n2) (m3 : m = n1 ∨ m = n2)
    (lz : z < S) (lTI : TI < S) (lTO : TO < S) (l1 : i1 < S) (l2 : i2 < S) (f1 : S ∉ fp1) (f2 : S ∉ fp2) (hn : m ≤ sizeLine) (res : Value) (c₀ : Nat)
    (hz : IsZip s.heap z TI TO .none) (hTI : IsTupOf2 s.heap TI (.ref i1) (.ref i2)) {a1 a2 : Value} (hTO : IsTupOf2 s.heap TO a1 a2) (st1 : St1 0 s.heap) (st2 : St2 0 s.heap) (hS : s.heap.get? S = some { cls := .type "list", data := .seq #[] c₀ })
    (hR : ∀ h' tk acc c as, (∀ b o, b ≠ S → b ≠ z → b ≠ TO → b ≠ i1 → b ≠ i2 → s.heap.get? b = some o → h'.get? b = some o) → h'.get? S = some { cls := .type "list", dict := none, data := .seq acc c, slots := #[] } → as.length = m → ZlG P1 P2 S h' as →
      acc.toList = as.map Value.ref → R (.ok (.ret res)) { s with heap := h', toks := tk }) :
    wpAny (model prog w) A.in1 (Builtin.List.listExtendWith (.ref S) (.ref z) res)
      (fun fin s' => match fin with | .done f => R (.ok f) s' | .again c' => c'.quiet = true ∧ codeAny (model prog w) A c' R s') (fun e s' => R (.error e) s') s := by
  have hT : s.TypeIs (.ref z) "zip" := ⟨_, hz, rfl⟩
  unfold Builtin.List.listExtendWith
  refine wpAny_bind (wpAny_typeOf (T := "zip") hT ?_)
  have h1 : Builtin.List.listSameRef (.ref S) (.ref z) = false := by
    have : S ≠ z := Nat.ne_of_gt lz
    simp [Builtin.List.listSameRef, this]
  have h2 : (Value.type "zip" == Value.type "list") = false := by decide
  have h3 : (Value.type "zip" == Value.type "tuple") = false := by decide
  simp only [h1, h2, h3, Bool.or_false, Bool.false_eq_true, if_false]
  refine wpAny_bind (wpAny_pyIter_zip hz ?_)
  refine wpAny_bind (wpAny_holding (zl_hint hT ?_))
  refine wpAny_ite_split (fun _ => ?_) (fun hab => absurd rfl hab)
  refine wpAny_bind (wpAny_rule ?_)
  refine wpAny_bind ?_
  show wpAny _ _ (updateSeq S (·.push .none) >>= fun _ => updateSeq S (·.pop)) _ _ _
  refine wpAny_bind (wpAny_updateSeq hS rfl ?_)
  have hS₂ := Heap.get?_update_self (Obj.mapSeq (·.push Value.none)) hS rfl
  refine wpAny_updateSeq (hz := by seq_fits) hS₂ rfl ?_
  have hS₃ := Heap.get?_update_self (Obj.mapSeq (·.pop)) hS₂ rfl
  have oth : ∀ b o, b ≠ S → s.heap.get? b = some o → ((s.heap.update S (Obj.mapSeq (·.push Value.none))).update S (Obj.mapSeq (·.pop))).get? b = some o :=
    fun b o hb e => (Heap.get?_update_other _ _ (Ne.symm hb)).trans ((Heap.get?_update_other _ _ (Ne.symm hb)).trans e)
  refine wpAny_pure ⟨plainId_quiet PySem.F.plain_extend_loop _, zl_loop (s := s) (h₁ := s.heap) Z D1 D2 m1 m2 m3 lz lTI lTO l1 l2 f1 f2 hn res hR m 0 _ s.toks _ #[] [] (Nat.sub_zero _) (Nat.zero_le _)
    ⟨oth _ _ (Nat.ne_of_lt lTI) hTI, .inl ⟨oth _ _ (Nat.ne_of_lt lz) hz, a1, a2, oth _ _ (Nat.ne_of_lt lTO) hTO⟩⟩ (D1.frame _ _ _ st1 fun b hb o e => oth b o (fun q => f1 (q ▸ hb)) e) (D2.frame _ _ _ st2 fun b hb o e => oth b o (fun q => f2 (q ▸ hb)) e)
    (fun b o hb _ _ _ _ e => oth b o hb e) hS₃ rfl rfl ⟨List.Pairwise.nil, (fun _ ha => nomatch ha), (fun j a hj => by simp at hj)⟩⟩
theorem zl_init {S : Addr} {m : Nat} (Z : ZipSep2 z TI TO i1 i2 fp1 fp2) (D1 : Draws prog w A.in1.in1 i1 fp1 n1 P1 St1) (D2 : Draws prog w A.in1.in1 i2 fp2 n2 P2 St2) (m1 : m ≤ n1) (m2 : m ≤ n2) (m3 : m = n1 ∨ m = n2)
    (lz : z < S) (lTI : TI < S) (lTO : TO < S) (l1 : i1 < S) (l2 : i2 < S) (f1 : S ∉ fp1) (f2 : S ∉ fp2) (hn : m ≤ sizeLine)
    (hz : IsZip s.heap z TI TO .none) (hTI : IsTupOf2 s.heap TI (.ref i1) (.ref i2)) {a1 a2 : Value} (hTO : IsTupOf2 s.heap TO a1 a2) (st1 : St1 0 s.heap) (st2 : St2 0 s.heap) (hS : s.heap.get? S = some { cls := .type "list", data := .seq #[] })
    (hR : ∀ h' tk acc c as, (∀ b o, b ≠ S → b ≠ z → b ≠ TO → b ≠ i1 → b ≠ i2 → s.heap.get? b = some o → h'.get? b = some o) → h'.get? S = some { cls := .type "list", dict := none, data := .seq acc c, slots := #[] } → as.length = m → ZlG P1 P2 S h' as →
      acc.toList = as.map Value.ref → R (.ok (.ret .none)) { s with heap := h', toks := tk }) :
    wpAny (model prog w) A.in1 (Builtin.«list.__init__» ⟨[.ref S, .ref z], []⟩)
      (fun fin s' => match fin with | .done f => R (.ok f) s' | .again c' => c'.quiet = true ∧ codeAny (model prog w) A c' R s') (fun e s' => R (.error e) s') s := by
  show wpAny _ _ (do let old ← Builtin.List.listItems (.ref S); Builtin.List.listUpdate (.ref S) (fun _ => #[]); letGo old.toList.reverse; Builtin.List.listExtendWith (.ref S) (.ref z) .none) _ _ s
  refine wpAny_bind ?_
  unfold Builtin.List.listItems
  refine wpAny_bind (wpAny_seqItems hS rfl (wpAny_pure ?_))
  show wpAny _ _ (updateSeq S (fun _ => #[]) >>= fun _ => letGo (#[] : Array Value).toList.reverse >>= fun _ => Builtin.List.listExtendWith (.ref S) (.ref z) .none) _ _ s
  refine wpAny_bind (wpAny_updateSeq hS rfl ?_)
  have hS₂ := Heap.get?_update_self (Obj.mapSeq (fun _ => (#[] : Array Value))) hS rfl
  have oth : ∀ b o, b ≠ S → s.heap.get? b = some o → (s.heap.update S (Obj.mapSeq (fun _ => (#[] : Array Value)))).get? b = some o :=
    fun b o hb e => (Heap.get?_update_other _ _ (Ne.symm hb)).trans e
  refine wpAny_bind (wpAny_letGo ?_)
  refine zl_extend Z D1 D2 m1 m2 m3 lz lTI lTO l1 l2 f1 f2 hn .none _ (oth _ _ (Nat.ne_of_lt lz) hz) (oth _ _ (Nat.ne_of_lt lTI) hTI) (oth _ _ (Nat.ne_of_lt lTO) hTO) (D1.frame _ _ _ st1 fun b hb o e => oth b o (fun q => f1 (q ▸ hb)) e) (D2.frame _ _ _ st2 fun b hb o e => oth b o (fun q => f2 (q ▸ hb)) e) hS₂ (fun h' tk acc c as hk hS' hl hG hacc => ?_)
  exact hR h' tk acc c as (fun b o hb h1 h2 h3 h4 e => hk b o hb h1 h2 h3 h4 (oth b o hb e)) hS' hl hG hacc
theorem zl_call {m : Nat} {Q : Value → Shared → Prop} (Z : ZipSep2 z TI TO i1 i2 fp1 fp2) (D1 : Draws prog w A.in1.in1.in1 i1 fp1 n1 P1 St1) (D2 : Draws prog w A.in1.in1.in1 i2 fp2 n2 P2 St2) (m1 : m ≤ n1) (m2 : m ≤ n2) (m3 : m = n1 ∨ m = n2)
    (l1 : i1 < s.heap.objs.size) (l2 : i2 < s.heap.objs.size) (f1 : s.heap.objs.size ∉ fp1) (f2 : s.heap.objs.size ∉ fp2) (hn : m ≤ sizeLine)
    (hz : IsZip s.heap z TI TO .none) (hTI : IsTupOf2 s.heap TI (.ref i1) (.ref i2)) {a1 a2 : Value} (hTO : IsTupOf2 s.heap TO a1 a2) (st1 : St1 0 s.heap) (st2 : St2 0 s.heap)
    (hQ : ∀ h' tk acc c as, (∀ b o, b ≠ z → b ≠ TO → b ≠ i1 → b ≠ i2 → s.heap.get? b = some o → h'.get? b = some o) → h'.get? s.heap.objs.size = some { cls := .type "list", dict := none, data := .seq acc c, slots := #[] } → as.length = m → ZlG P1 P2 s.heap.objs.size h' as →
      acc.toList = as.map Value.ref → Q (.ref s.heap.objs.size) { s with heap := h', toks := tk }) :
    wpAny (model prog w) A (call (.type "list") [.ref z]) Q E s := by
  refine callType_codes (Q₁ := fun obj s₁ => obj = .ref s.heap.objs.size ∧ s₁ = { s with heap := s.heap.push { cls := .type "list", data := .seq #[] } }) PySem.F.called_list (PySem.F.typeCall_list_1 _) PySem.F.entry_list_init
    (code_list_new _ ⟨rfl, rfl⟩) fun obj s₁ h₁ => ?_
  obtain ⟨rfl, rfl⟩ := h₁
  have hS : (s.heap.push { cls := .type "list", data := .seq #[] }).get? s.heap.objs.size = some { cls := .type "list", data := .seq #[] } := Heap.get?_push_size _ rfl
  have push : ∀ c o, s.heap.get? c = some o → (s.heap.push { cls := .type "list", data := .seq #[] }).get? c = some o := fun c o e => Heap.get?_push_of_some _ e
  refine ⟨⟨_, hS, rfl⟩, PySem.F.args_list_init_2 _ _, zl_init (A := A.in1) Z D1 D2 m1 m2 m3 (Heap.lt_size hz) (Heap.lt_size hTI) (Heap.lt_size hTO) l1 l2 f1 f2 hn (push _ _ hz) (push _ _ hTI) (push _ _ hTO) (D1.frame _ _ _ st1 fun b _ o e => push b o e) (D2.frame _ _ _ st2 fun b _ o e => push b o e) hS (fun h' tk acc c as hk hS' hl hG hacc => ?_)⟩
  exact ⟨rfl, hQ h' tk acc c as (fun b o h1 h2 h3 h4 e => hk b o (Nat.ne_of_lt (Heap.lt_size e)) h1 h2 h3 h4 (push b o e)) hS' hl hG hacc⟩
end
namespace LZ
open L2
/-- the tuples tracked at their addresses -/
def putZ : Hp → List Addr → List (V × V) → Hp
  | H, a :: as, p :: kvs => putZ (upd H a (.tup [p.1, p.2])) as kvs
  | H, _, _ => H
theorem putZ_off {b : Addr} : ∀ (as : List Addr) (kvs : List (V × V)) (H : Hp), b ∉ as → putZ H as kvs b = H b
  | [], _, _, _ => rfl
  | _ :: _, [], _, _ => rfl
  | a :: as, p :: kvs, H, h => by
    show putZ (upd H a (.tup [p.1, p.2])) as kvs b = H b
    rw [putZ_off as kvs _ (fun z => h (List.mem_cons_of_mem _ z)), upd_ne (fun z => h (by rw [z]; exact List.mem_cons_self))]
theorem putZ_at : ∀ (as : List Addr) (kvs : List (V × V)) (H : Hp), as.length = kvs.length → as.Nodup → Paired (fun (t : Addr) (p : V × V) => putZ H as kvs t = some (.tup [p.1, p.2])) as kvs
  | [], [], _, _, _ => .nil
  | [], _ :: _, _, h, _ => by cases h
  | _ :: _, [], _, h, _ => by cases h
  | a :: as, p :: kvs, H, h, hn => by
    have hn' := List.nodup_cons.mp hn
    have ih := putZ_at as kvs (upd H a (.tup [p.1, p.2])) (Nat.succ.inj h) hn'.2
    refine .cons ?_ ih
    show putZ (upd H a (.tup [p.1, p.2])) as kvs a = some (.tup [p.1, p.2])
    rw [putZ_off as kvs _ hn'.1, upd_same]
theorem zip_get {α β : Type} : ∀ {xs : List α} {ys : List β} {j : Nat} {p : α × β}, (xs.zip ys)[j]? = some p → xs[j]? = some p.1 ∧ ys[j]? = some p.2
  | [], _, _, _, h => by cases h
  | _ :: _, [], _, _, h => by cases h
  | x :: xs, y :: ys, 0, p, h => by
    have e : (x, y) = p := Option.some.inj h
    rw [← e]
    exact ⟨rfl, rfl⟩
  | x :: xs, y :: ys, j + 1, p, h => zip_get (xs := xs) (ys := ys) (j := j) h
theorem zip_laid {X : Cx} {pins : List (Addr × Obj)} {σ : L2.St} {H : Hp} {s : Shared} {h' : Heap} {tk : Nat} {S : Addr} {xs ys : List V} {its its2 : List Value} {acc : Array Value} {c : Nat} {as : List Addr} (I : Inv X pins σ H s) (hz : (xs.zip ys).length ≤ sizeLine) (rv : Vals xs its) (rv2 : Vals ys its2)
    (hk : ∀ b o, s.heap.get? b = some o → h'.get? b = some o) (hSl : s.heap.objs.size ≤ S) (hS : h'.get? S = some { cls := .type "list", dict := none, data := .seq acc c, slots := #[] }) (hl : as.length = (xs.zip ys).length) (hG : ZlG (fun k y => its.toArray[k]? = some y) (fun k y => its2.toArray[k]? = some y) S h' as) (hacc : acc.toList = as.map Value.ref) :
    ∃ H' : Hp, (∀ b o, H b = some o → H' b = some o) ∧ H S = none ∧ (∀ t ∈ as, H t = none) ∧ S ∉ as ∧ H' S = some (.lst (as.map V.ref)) ∧ Paired (fun (t : Addr) (q : V × V) => H' t = some (.tup [q.1, q.2])) as (xs.zip ys) ∧ Inv X pins σ H' { s with heap := h', toks := tk } := by
  have hSn : S ∉ as := fun z => Nat.lt_irrefl _ (hG.above _ z)
  have nd : as.Nodup := List.Pairwise.imp (fun {a b} (h : a < b) => Nat.ne_of_lt h) hG.rise
  have new : ∀ t ∈ as, H t = none := fun t ht => I.hok.fresh (Nat.le_of_lt (Nat.lt_of_le_of_lt hSl (hG.above t ht)))
  have newS : H S = none := I.hok.fresh hSl
  have atP := putZ_at as (xs.zip ys) (upd H S (.lst (as.map V.ref))) hl nd
  have off : ∀ b, b ∉ as → b ≠ S → putZ (upd H S (.lst (as.map V.ref))) as (xs.zip ys) b = H b := fun b h1 h2 => by rw [putZ_off as _ _ h1, upd_ne h2]
  have low : ∀ b o, s.heap.get? b = some o → b ∉ as ∧ b ≠ S := fun b o e => ⟨fun z => absurd (Heap.lt_size e) (Nat.not_lt.mpr (Nat.le_of_lt (Nat.lt_of_le_of_lt hSl (hG.above b z)))), Nat.ne_of_lt (Nat.lt_of_lt_of_le (Heap.lt_size e) hSl)⟩
  have kp : ∀ b u, H b = some u → (putZ (upd H S (.lst (as.map V.ref))) as (xs.zip ys)) b = some u := fun b u e => by
    rw [off b (fun z => by rw [new b z] at e; cases e) (fun z => by rw [z, newS] at e; cases e)]
    exact e
  have eS : putZ (upd H S (.lst (as.map V.ref))) as (xs.zip ys) S = some (.lst (as.map V.ref)) := by rw [putZ_off as _ _ hSn, upd_same]
  refine ⟨putZ (upd H S (.lst (as.map V.ref))) as (xs.zip ys), kp, newS, new, hSn, eS, atP, ?_⟩
  refine I.call' (ch := []) rfl ⟨fun b o q _ _ _ => hk b o q, fun b o q _ _ _ => ⟨o.slots, hk b o q⟩, fun b o q n _ => ?_, fun b o q _ => ⟨o, hk b o q⟩, fun b xs q => kp b _ q, fun b o u q => kp b _ q, fun b ps q => ⟨#[], by rw [kp b _ q]; simp⟩⟩ (fun b u q => ?_) I.bare fun b z => by simp at z
  · obtain ⟨z1, z2⟩ := low b o q
    rw [off b z1 z2]
    exact n
  · by_cases hb : b ∈ as
    · obtain ⟨j, pk, e1, e2, e3⟩ := LiI.paired_ix atP hb
      rw [e3] at q
      cases q
      obtain ⟨x1, x2, f1, f2, f3⟩ := hG.pairs j b e1
      obtain ⟨g1, g2⟩ := zip_get e2
      obtain ⟨u1, hu1, ru1⟩ := rv.get g1
      obtain ⟨u2, hu2, ru2⟩ := rv2.get g2
      have w1 : x1 = u1 := by
        have : its.toArray[j]? = some u1 := by simpa using hu1
        rw [this] at f1
        exact (Option.some.inj f1).symm
      have w2 : x2 = u2 := by
        have : its2.toArray[j]? = some u2 := by simpa using hu2
        rw [this] at f2
        exact (Option.some.inj f2).symm
      subst w1 w2
      exact ⟨by show 2 ≤ sizeLine; decide, [x1, x2], .cons ru1 (.cons ru2 .nil), ⟨_, f3, rfl, _, rfl⟩⟩
    · by_cases hb2 : b = S
      · rw [hb2] at q ⊢
        rw [eS] at q
        cases q
        refine ⟨by rw [List.length_map]; omega, acc.toList, c, by rw [hacc]; exact LiI.vals_refs as, ?_⟩
        rw [Array.toArray_toList]
        exact hS
      · rw [off b hb hb2] at q
        exact (I.hok b u q).stay (fun d v _ y => hk d v y) (fun d y => kp d _ y) fun d xs y => kp d _ y
theorem HSq.keep {b : Bool} {h h' : Heap} {l : Addr} {items : Array Value} (x : HSq b h l items) (k : ∀ c o, h.get? c = some o → h'.get? c = some o) : HSq b h' l items := by
  cases b
  · obtain ⟨o, ho, r⟩ := x
    exact ⟨o, k _ _ ho, r⟩
  · obtain ⟨o, ho, r⟩ := x
    exact ⟨o, k _ _ ho, r⟩
theorem n5a {n S : Nat} (e : S = n + 5) : n < S := by omega
theorem n5b {n S : Nat} (e : S = n + 5) : n + 1 < S := by omega
theorem n5c {n S : Nat} (e : S = n + 5) : S ≠ n := by omega
theorem n5d {n S : Nat} (e : S = n + 5) : S ≠ n + 1 := by omega
theorem n5e {n S x : Nat} (e : S = n + 5) (h : x < n) : S ≠ x := by omega
theorem n5f {n x : Nat} (k : Nat) (h : x < n) : x ≠ n + k := by omega
theorem n5g {n S : Nat} (e : S = n + 5) : n ≤ S := by omega
def tListZip (K : Fr) (ta : TA) : TE := fun σ H Q => ta σ H fun vs H1 => ∃ b1 b2 a b xs ys, vs = [.ref a, .ref b] ∧ SqK K b1 H1 a xs ∧ SqK K b2 H1 b ys ∧ (xs.zip ys).length ≤ sizeLine ∧
  ∀ (H' : Hp) (p : Addr) (ts : List Addr), (∀ b o, H1 b = some o → H' b = some o) → H1 p = none → (∀ t ∈ ts, H1 t = none) → p ∉ ts → H' p = some (.lst (ts.map V.ref)) → Paired (fun (t : Addr) (q : V × V) => H' t = some (.tup [q.1, q.2])) ts (xs.zip ys) → Q (.ref p) H'
theorem pe_listZip {X : Cx} {e e2 : Expr} {ta : TA} {p pz pos zpos : Pos} (hc : X.calm = true) (hg : Gl X "zip") (hm : X.mg "zip" = none) (hg2 : Gl X "list") (hm2 : X.mg "list" = none) (ha : PA X [e, e2] ta)
    (hs : starEach [e, e2] X.env = (false, eval e X.env) :: starEach [e2] X.env := by rfl) (hpl : (backTo zpos (starEach [e2] X.env)).any (·.1) = false := by rfl)
    (hs2 : starEach [.Call (.Name "zip" pz) [e, e2] [] zpos] X.env = (false, eval (.Call (.Name "zip" pz) [e, e2] [] zpos) X.env) :: starEach [] X.env := by rfl) :
    PE X (.Call (.Name "list" p) [.Call (.Name "zip" pz) [e, e2] [] zpos] [] pos) (tListZip X.K ta) := by
  refine ⟨fun pins s σ H Q I hq => ?_⟩
  refine wpAny_Call_Name_kw (ld_blt I hg2 hm2 (by decide +kernel : bootBuiltins "list" = some (.type "list")) ?_)
  refine PyProof.Rows.callWith_type1 ?_ hs2 rfl
  rw [hs2]
  show wpAny _ _ (spliced ((false, eval (.Call (.Name "zip" pz) [e, e2] [] zpos) X.env) :: backTo pos (starEach [] X.env))) _ _ s
  refine Calls.spliced_cons ?_
  refine Call_ (ld_blt I hg hm PyProof.Rows.boot_zip (PyProof.Rows.callWith_type1 (thn (ha.run zpos pins s σ H _ I hq) fun us s1 ⟨vs, H1, I1, r1, q1⟩ => ?_) hs hpl))
  obtain ⟨b1, b2, a, b, xs, ys, ex, hqx, hqy, hz0, q⟩ := q1
  subst ex
  cases r1 with
  | cons r rr =>
    cases rr with
    | cons r' rr =>
      cases rr
      cases r
      cases r'
      obtain ⟨its, rv, p1, lt1⟩ := inv_seq I1 hqx
      obtain ⟨its2, rv2, p2, lt2⟩ := inv_seq I1 hqy
      have ll1 := rv.length
      have ll2 := rv2.length
      refine zip_begins2 (begK b1 a its.toArray) (begK b2 b its2.toArray) p1 p2 fun h' hz hTI hTO h1 h2 hsz hk => ?_
      refine Calls.spliced_nil ?_
      have hhd : X.A.handled = none := I1.ok.hd hc
      have g1 : HSq b1 h' a its.toArray := HSq.keep p1 hk
      have g2 : HSq b2 h' b its2.toArray := HSq.keep p2 hk
      have D1 := drwK (pr := X.prog) (wd := X.w) (Ar := X.A.in1.in1.in1) hhd b1 s1.heap.objs.size a (Nat.ne_of_lt lt1) its.toArray
      have D2 := drwK (pr := X.prog) (wd := X.w) (Ar := X.A.in1.in1.in1) hhd b2 (s1.heap.objs.size + 1) b (Nat.ne_of_lt (Nat.lt_succ_of_lt lt2)) its2.toArray
      have e1 : its.toArray.size = its.length := by simp
      have e2 : its2.toArray.size = its2.length := by simp
      have zl : (xs.zip ys).length = min its.length its2.length := by rw [List.length_zip, ll1, ll2]
      have szn : ({ s1 with heap := h' } : Shared).heap.objs.size = s1.heap.objs.size + 5 := hsz
      refine zl_call (s := { s1 with heap := h' }) (m := (xs.zip ys).length) (sep2 s1.heap.objs.size a b lt1 lt2) D1 D2 (by omega) (by omega) (by omega) (n5a szn) (n5b szn) (notIn2 (n5c szn) (n5e szn lt1)) (notIn2 (n5d szn) (n5e szn lt2)) hz0 hz hTI hTO ⟨HIt.new h1, g1⟩ ⟨HIt.new h2, g2⟩ fun h'' tk acc c as hk2 hS hl hG hacc => ?_
      have old : ∀ b o, s1.heap.get? b = some o → h''.get? b = some o := fun b o e => by
        have := Heap.lt_size e
        exact hk2 b o (n5f 4 this) (n5f 3 this) (n5f 0 this) (n5f 1 this) (hk b o e)
      obtain ⟨H', k1, k2, k3, k4, k5, k6, J⟩ := zip_laid (tk := tk) I1 hz0 rv rv2 old (n5g szn) hS hl hG hacc
      exact ⟨.ref _, H', J, rfl, q H' _ as k1 k2 k3 k4 k5 k6⟩
/-- the list of the pairs of two sequences -/
def dListZip (xs : List D) : Option D := (zipM xs).bind fun l => if l.length ≤ 1000000 then some (.list l) else none
theorem paired_dq {K : Fr} {G G' : Hp} (gg : Same G G') : ∀ {vs ws : List V} {xs ys : List D} {ts : List Addr}, DqAll K G vs xs → DqAll K G ws ys → Paired (fun (t : Addr) (q : V × V) => G' t = some (.tup [q.1, q.2])) ts (vs.zip ws) → DqAll K G' (ts.map V.ref) (zipL xs ys)
  | _, ws, _, ys, ts, .nil, hb, h => by
    have h : Paired (fun (t : Addr) (q : V × V) => G' t = some (.tup [q.1, q.2])) ts [] := h
    cases h
    exact .nil
  | _, _, _, _, ts, .cons a r, .nil, h => by
    have h : Paired (fun (t : Addr) (q : V × V) => G' t = some (.tup [q.1, q.2])) ts [] := h
    cases h
    exact .nil
  | _, _, _, _, ts, .cons a r, .cons b r', h => by
    rw [List.zip_cons_cons] at h
    cases h with
    | cons h t => exact .cons (.tup (SqT.of h) (.cons (Dq_mono gg a) (.cons (Dq_mono gg b) .nil))) (paired_dq gg r r' t)
open Classical in
theorem qe_listZip {X : Cx} {e e2 : Expr} {m : M (List D)} {p pz pos zpos : Pos} (hc : X.calm = true) (hm : X.mg "zip" = none) (hm2 : X.mg "list" = none) (ha : QA X [e, e2] m) (hg : Gl X "zip" := by rfl) (hg2 : Gl X "list" := by rfl)
    (hs : starEach [e, e2] X.env = (false, eval e X.env) :: starEach [e2] X.env := by rfl) (hpl : (backTo zpos (starEach [e2] X.env)).any (·.1) = false := by rfl)
    (hs2 : starEach [.Call (.Name "zip" pz) [e, e2] [] zpos] X.env = (false, eval (.Call (.Name "zip" pz) [e, e2] [] zpos) X.env) :: starEach [] X.env := by rfl) :
    QE X (.Call (.Name "list" p) [.Call (.Name "zip" pz) [e, e2] [] zpos] [] pos) (eApp dListZip m) := by
  refine PE.imp (pe_listZip hc hg hm hg2 hm2 ha hs hpl hs2) fun σ H Q h => ?_
  obtain ⟨R, G, ρ, d, ρ', rp, e, k⟩ := h
  obtain ⟨x, h1, h2⟩ := bindA e
  refine ⟨R, G, ρ, x, ρ', rp, h1, fun G1 H1 v1 s1 r1 d1 => ?_⟩
  unfold dListZip at h2
  rw [Option.bind_eq_some_iff] at h2
  obtain ⟨l, h3, h2⟩ := h2
  split at h2
  · rename_i hl
    cases h2
    unfold zipM at h3
    split at h3
    · rw [Option.bind_eq_some_iff] at h3
      obtain ⟨⟨b1, xs1⟩, e1, h3⟩ := h3
      rw [Option.map_eq_some_iff] at h3
      obtain ⟨⟨b2, xs2⟩, e2, h3⟩ := h3
      cases h3
      cases d1 with
      | cons da dr =>
        cases dr with
        | cons db dr =>
          cases dr
          obtain ⟨a, vs, rfl, ha, hva⟩ := dq_seq da e1
          obtain ⟨b, ws, rfl, hb, hvb⟩ := dq_seq db e2
          have l1 := hva.length
          have l2 := hvb.length
          rw [zipL_length] at hl
          refine ⟨b1, b2, a, b, vs, ws, rfl, ha H1 r1.subG, hb H1 r1.subG, by rw [List.length_zip, l1, l2]; exact size_of hl, fun H' p ts k1 k2 k3 k4 k5 k6 => ?_⟩
          let G' : Hp := fun c => if H1 c = none then H' c else G1 c
          have gr : Gr G1 H1 G' H' := by
            refine ⟨fun c o q => k1 c o q, fun c o q => ?_, fun c o q => ?_, fun c o q1 q2 => ?_⟩
            · show (if H1 c = none then H' c else G1 c) = some o
              rw [if_neg (fun z => by rw [r1.subG c o q] at z; cases z)]
              exact q
            · have q : (if H1 c = none then H' c else G1 c) = some o := q
              split at q
              · exact q
              · exact k1 c o (r1.subG c o q)
            · have q2 : (if H1 c = none then H' c else G1 c) = some o := q2
              split at q2
              · exact .inl (by assumption)
              · rw [q1] at q2; cases q2
          have at' : ∀ c, H1 c = none → G' c = H' c := fun c q => if_pos q
          refine k G' H' _ (s1.trans gr.gg) (r1.grow gr) (.lst (by rw [at' p k2]; exact k5) (paired_dq gr.gg hva hvb ?_))
          have : ∀ {ts : List Addr} {qs : List (V × V)}, (∀ t ∈ ts, H1 t = none) → Paired (fun (t : Addr) (q : V × V) => H' t = some (.tup [q.1, q.2])) ts qs → Paired (fun (t : Addr) (q : V × V) => G' t = some (.tup [q.1, q.2])) ts qs := by
            intro ts qs hn h
            induction h with
            | nil => exact .nil
            | cons h t ih => exact .cons (by rw [at' _ (hn _ List.mem_cons_self)]; exact h) (ih fun t ht => hn t (List.mem_cons_of_mem _ ht))
          exact this k3 k6
    · cases h3
  · cases h2
end LZ
end QL
set_option Elab.async false
set_option linter.all false
set_option maxRecDepth 100000
set_option maxHeartbeats 1000000
/-! ### what may raise, as a function; the exception that is handled, looked at -/
namespace QL
open PySem PySem.Spec PyProof.Rows L2 L2H
inductive Ex (α : Type) where
  | ok (x : α)
  | er (z : Str)
abbrev MX := Ro → Option (Ex D × Ro)
abbrev MXS := Ro → Option (Ex Fl × Ro)
def zQ (K : Fr) (cm : Str → Value) (Wx : WX) (R G : Hp) (Q : VK) (σ : St) (ρ' : Ro) : Ex D → Prop
  | .ok d => ∀ G' H' v, Same G G' → Rep K R G' H' ρ' σ → Dq K G' v d → Q v H'
  | .er z => ∀ G' H', Same G G' → Rep K R G' H' ρ' σ → Wx (cm z) none σ H'
theorem zQ_mono {K : Fr} {cm : Str → Value} {Wx : WX} {R G G1 : Hp} {Q : VK} {σ : St} {ρ' : Ro} {r : Ex D} (h : zQ K cm Wx R G Q σ ρ' r) (s1 : Same G G1) : zQ K cm Wx R G1 Q σ ρ' r := by
  cases r with
  | ok d => exact fun G' H' v s r d => h G' H' v (s1.trans s) r d
  | er z => exact fun G' H' s r => h G' H' (s1.trans s) r
def tZE (K : Fr) (cm : Str → Value) (Wx : WX) (m : MX) : TE := fun σ H Q => ∃ R G ρ r ρ', Rep K R G H ρ σ ∧ m ρ = some (r, ρ') ∧ zQ K cm Wx R G Q σ ρ' r
def exQ (K : Fr) (cm : Str → Value) (Wx : WX) (R G : Hp) (E : Ends) (σ : St) (W : List Nat) (ρ' : Ro) : Ex Fl → Prop
  | .ok f => flQ K R G E σ W ρ' f
  | .er z => ∀ G' H' σ', Same G G' → Rep K R G' H' ρ' σ' → Frm W σ σ' → Wx (cm z) none σ' H'
def tZS (K : Fr) (cm : Str → Value) (Wx : WX) (W : List Nat) (m : MXS) : TS := fun E σ H => ∃ R G ρ r ρ', Rep K R G H ρ σ ∧ m ρ = some (r, ρ') ∧ exQ K cm Wx R G E σ W ρ' r
theorem exQ_mono {K : Fr} {cm : Str → Value} {Wx : WX} {R G G1 : Hp} {E : Ends} {ρ' : Ro} {W V : List Nat} {σ σ1 : St} {f : Ex Fl} (h : exQ K cm Wx R G E σ W ρ' f) (s : Same G G1) (fr : ∀ σ', Frm V σ1 σ' → Frm W σ σ') : exQ K cm Wx R G1 E σ1 V ρ' f := by
  cases f with
  | ok f => exact flQ_mono h s fr
  | er z => exact fun G' H' σ' s' r f => h G' H' σ' (s.trans s') r (fr σ' f)
def xLift (m : MS) : MXS := fun ρ => (m ρ).map fun p => (.ok p.1, p.2)
def xLiftE (m : M D) : MX := fun ρ => (m ρ).map fun p => (.ok p.1, p.2)
def xCons (a b : MXS) : MXS := fun ρ => (a ρ).bind fun p => match p.1 with
  | .ok .nx => b p.2
  | f => some (f, p.2)
def xIfS (c : M Bool) (a b : MXS) : MXS := fun ρ => (c ρ).bind fun p => if p.1 = true then a p.2 else b p.2
def xIfE (c : M Bool) (a b : MX) : MX := fun ρ => (c ρ).bind fun p => if p.1 = true then a p.2 else b p.2
def xRaise (y : Str) : MXS := fun ρ => some (.er y, ρ)
def xRet (a : MX) : MXS := fun ρ => (a ρ).map fun p => match p.1 with
  | .ok d => (.ok (.rt d), p.2)
  | .er z => (.er z, p.2)
def xDrop (a : MX) : MXS := fun ρ => (a ρ).map fun p => match p.1 with
  | .ok _ => (.ok .nx, p.2)
  | .er z => (.er z, p.2)
def xApp (F : List D → Option (Ex D)) (m : M (List D)) : MX := fun ρ => (m ρ).bind fun p => (F p.1).map fun r => (r, p.2)
def spX (K : Fr) (cm : Str → Value) (F : List D → Option (Ex D)) (n : Nat) : Sp := fun vs H Q E => vs.length = n ∧ ∃ G ds r, Same G H ∧ DqAll K G vs ds ∧ F ds = some r ∧ match r with
  | .ok d => ∀ G' H' v, Gr G H G' H' → Dq K G' v d → Q v H'
  | .er z => ∀ G' H', Gr G H G' H' → E (cm z) none H'
def endX : Ex Fl × Ro → Option (Ex D)
  | (.ok (.rt d), _) => some (.ok d)
  | (.ok .nx, _) => some (.ok .none)
  | (.er z, _) => some (.er z)
  | _ => none
def runX (n N : Nat) (body : MXS) : List D → Option (Ex D) := fun ds => if ds.length = n then (body (ds.map Sl.dat ++ List.replicate (N - n) Sl.un)).bind endX else none
theorem runX_len {n N : Nat} {body : MXS} : ∀ ds d, runX n N body ds = some d → ds.length = n := fun ds d h => by
  unfold runX at h
  split at h
  · assumption
  · cases h
section
variable {X : Cx} {cm : Str → Value} {Wx : WX} {pos p p2 : Pos} {W V : List Nat}
theorem xs_lift {st : Stmt} {m : MS} (h : QS X W st m) : PS X st (tZS X.K cm Wx W (xLift m)) := by
  refine PS.imp h fun E σ H h => ?_
  obtain ⟨R, G, ρ, r, ρ', rp, e, k⟩ := h
  unfold xLift at e
  rw [Option.map_eq_some_iff] at e
  obtain ⟨⟨f, ρ1⟩, h1, e⟩ := e
  cases e
  exact ⟨R, G, ρ, f, _, rp, h1, k⟩
theorem xss_lift {st : List Stmt} {m : MS} (h : QSs X W st m) : PSs X st (tZS X.K cm Wx W (xLift m)) := by
  refine PSs.imp h fun E σ H h => ?_
  obtain ⟨R, G, ρ, r, ρ', rp, e, k⟩ := h
  unfold xLift at e
  rw [Option.map_eq_some_iff] at e
  obtain ⟨⟨f, ρ1⟩, h1, e⟩ := e
  cases e
  exact ⟨R, G, ρ, f, _, rp, h1, k⟩
theorem xss_one {st : Stmt} {m : MXS} (h : PS X st (tZS X.K cm Wx W m)) : PSs X [st] (tZS X.K cm Wx W m) := pss_one h
theorem xss_cons {st : Stmt} {rest : List Stmt} {m n : MXS} (h1 : PS X st (tZS X.K cm Wx W m)) (h2 : PSs X rest (tZS X.K cm Wx V n)) : PSs X (st :: rest) (tZS X.K cm Wx (W ++ V) (xCons m n)) := by
  refine PSs.imp (pss_cons h1 h2) fun E σ H h => ?_
  obtain ⟨R, G, ρ, r, ρ', rp, e, k⟩ := h
  unfold xCons at e
  rw [Option.bind_eq_some_iff] at e
  obtain ⟨⟨f, ρ1⟩, h1, e⟩ := e
  have left : ∀ σ', Frm W σ σ' → Frm (W ++ V) σ σ' := fun σ' z => z.mono fun j hj => List.mem_append_left _ hj
  refine ⟨R, G, ρ, f, ρ1, rp, h1, ?_⟩
  cases f with
  | er z =>
    cases e
    exact fun G' H' σ' s r f => k G' H' σ' s r (left σ' f)
  | ok f =>
    cases f with
    | nx =>
      intro G1 H1 σ1 s1 r1 f1
      exact ⟨R, G1, ρ1, r, ρ', r1, e, exQ_mono k s1 fun σ' z => f1.trans z⟩
    | bk => cases e; exact flQ_mono (f := .bk) k (.refl _) left
    | ct => cases e; exact flQ_mono (f := .ct) k (.refl _) left
    | rt d => cases e; exact flQ_mono (f := .rt d) k (.refl _) left
theorem xs_if {c : Expr} {a b : List Stmt} {m : M Bool} {u v : MXS} (hc : QT X c m) (ha : PSs X a (tZS X.K cm Wx W u)) (hb : PSs X b (tZS X.K cm Wx V v)) : PS X (.If c a b pos) (tZS X.K cm Wx (W ++ V) (xIfS m u v)) := by
  refine PS.imp (ps_if hc ha hb) fun E σ H h => ?_
  obtain ⟨R, G, ρ, f, ρ', rp, e, k⟩ := h
  unfold xIfS at e
  rw [Option.bind_eq_some_iff] at e
  obtain ⟨⟨b1, ρ1⟩, hm, e⟩ := e
  refine ⟨R, G, ρ, b1, ρ1, rp, hm, fun G1 H1 s1 r1 => ?_⟩
  cases b1 with
  | true =>
    rw [if_pos rfl] at e ⊢
    exact ⟨R, G1, ρ1, f, ρ', r1, e, exQ_mono k s1 fun σ' z => z.mono fun j hj => List.mem_append_left _ hj⟩
  | false =>
    rw [if_neg Bool.false_ne_true] at e ⊢
    exact ⟨R, G1, ρ1, f, ρ', r1, e, exQ_mono k s1 fun σ' z => z.mono fun j hj => List.mem_append_right _ hj⟩
theorem xs_raise {B newId initId : String} {bmB : List Value} {y m : Str} {j : Nat} {pos' : Pos} (F : ExcBaseFacts B newId initId bmB) (hC : ClsOk X.K X.mg cm bmB newId y) (tk : Takes X Wx) (hc : X.calm = true := by rfl) (hg : Gl X y := by rfl) (hdb : (y == ("__debug__" : Str)) = false := by decide) :
    PS X (.Raise (some (.Call (.Name y p) [.Constant (.str m) j p2] [] pos)) none pos') (tZS X.K cm Wx [] (xRaise y)) := by
  obtain ⟨C, h1, h2, h3, h4, h5, h6⟩ := hC.ex
  refine PS.imp (ps_raise hc tk (pmk_own F h4 h2 h3 (raises_own h5 h6) hg hdb)) fun D σ H h => ?_
  obtain ⟨R, G, ρ, x, ρ', rp, e, k⟩ := h
  cases e
  have := k G H σ (.refl _) rp (.refl _ _)
  rw [h1] at this
  exact this
theorem xe_lift {e : Expr} {m : M D} (h : QE X e m) : PE X e (tZE X.K cm Wx (xLiftE m)) := by
  refine PE.imp h fun σ H Q h => ?_
  obtain ⟨R, G, ρ, r, ρ', rp, e, k⟩ := h
  unfold xLiftE at e
  rw [Option.map_eq_some_iff] at e
  obtain ⟨⟨f, ρ1⟩, h1, e⟩ := e
  cases e
  exact ⟨R, G, ρ, f, _, rp, h1, k⟩
theorem xe_if {c a b : Expr} {m : M Bool} {u v : MX} (hc : QT X c m) (ha : PE X a (tZE X.K cm Wx u)) (hb : PE X b (tZE X.K cm Wx v)) : PE X (.IfExp c a b pos) (tZE X.K cm Wx (xIfE m u v)) := by
  refine PE.imp (pe_ifExp hc ha hb) fun σ H Q h => ?_
  obtain ⟨R, G, ρ, f, ρ', rp, e, k⟩ := h
  unfold xIfE at e
  rw [Option.bind_eq_some_iff] at e
  obtain ⟨⟨b1, ρ1⟩, hm, e⟩ := e
  refine ⟨R, G, ρ, b1, ρ1, rp, hm, fun G1 H1 s1 r1 => ?_⟩
  cases b1 with
  | true =>
    rw [if_pos rfl] at e
    show tZE X.K cm Wx u σ H1 Q
    exact ⟨R, G1, ρ1, f, ρ', r1, e, zQ_mono k s1⟩
  | false =>
    rw [if_neg Bool.false_ne_true] at e
    show tZE X.K cm Wx v σ H1 Q
    exact ⟨R, G1, ρ1, f, ρ', r1, e, zQ_mono k s1⟩
theorem xs_ret {e : Expr} {m : MX} (h : PE X e (tZE X.K cm Wx m)) : PS X (.Return (some e) pos) (tZS X.K cm Wx [] (xRet m)) := by
  refine PS.imp (ps_ret h) fun E σ H h => ?_
  obtain ⟨R, G, ρ, r, ρ', rp, e, k⟩ := h
  unfold xRet at e
  rw [Option.map_eq_some_iff] at e
  obtain ⟨⟨f, ρ1⟩, h1, e⟩ := e
  refine ⟨R, G, ρ, f, ρ1, rp, h1, ?_⟩
  cases f with
  | ok d => cases e; exact fun G' H' v s r dv => k G' H' σ v s r (.refl _ _) dv
  | er z => cases e; exact fun G' H' s r => k G' H' σ s r (.refl _ _)
theorem xs_expr {e : Expr} {m : MX} (h : PE X e (tZE X.K cm Wx m)) (hs : swapsWith e none pos.line X.env = pure false := by rfl) : PS X (.Expr e pos) (tZS X.K cm Wx [] (xDrop m)) := by
  refine PS.imp (ps_expr h hs) fun E σ H h => ?_
  obtain ⟨R, G, ρ, r, ρ', rp, e, k⟩ := h
  unfold xDrop at e
  rw [Option.map_eq_some_iff] at e
  obtain ⟨⟨f, ρ1⟩, h1, e⟩ := e
  refine ⟨R, G, ρ, f, ρ1, rp, h1, ?_⟩
  cases f with
  | ok d => cases e; exact fun G' H' v s r dv => k G' H' σ s r (.refl _ _)
  | er z => cases e; exact fun G' H' s r => k G' H' σ s r (.refl _ _)
theorem xe_call {x : Str} {k : Nat} {f : Addr} {fd : FuncData} {ps : List Str} {F : List D → Option (Ex D)} {n : Nat} {e : Expr} {es : List Expr} {m : M (List D)} (tk : Takes X Wx)
    (FO : FnOk X.prog X.w X.K X.mg X.base (L2.CX X.prog X.w) k f fd ps (spX X.K cm F n)) (hr : Room k X.A) (hm : X.mg x = some (.ref f)) (hk : PySem.W.keepIn X.K (.ref f) = true) (hb : Binds X.K fd ps [])
    (ha : QA X (e :: es) m) (hF : ∀ ds d, F ds = some d → ds.length = n := by exact runX_len) (hg : Gl X x := by rfl) (hdb : (x == ("__debug__" : Str)) = false := by decide) (he : starEach (e :: es) X.env = (false, eval e X.env) :: starEach es X.env := by rfl) (hpl : (backTo pos (starEach es X.env)).any (·.1) = false := by rfl) :
    PE X (.Call (.Name x p) (e :: es) [] pos) (tZE X.K cm Wx (xApp F m)) := by
  refine PE.imp (pe_callS (E := WE Wx) FO hr hg hm hk hb (fun σ => passAt tk σ) ha hdb he hpl) fun σ H Q h => ?_
  obtain ⟨R, G, ρ, y, ρ', rp, e, kk⟩ := h
  unfold xApp at e
  rw [Option.bind_eq_some_iff] at e
  obtain ⟨⟨ds, ρ1⟩, hmm, e⟩ := e
  rw [Option.map_eq_some_iff] at e
  obtain ⟨r, h2, e⟩ := e
  cases e
  refine ⟨R, G, ρ, ds, ρ1, rp, hmm, fun G1 H1 v1 s1 r1 d1 => ⟨?_, G1, ds, y, r1.subG, d1, h2, ?_⟩⟩
  · rw [d1.length]; exact hF _ _ h2
  · cases y with
    | ok d => exact fun G2 H2 v g2 dv => kk G2 H2 v (s1.trans g2.gg) (r1.grow g2) dv
    | er z => exact fun G2 H2 g2 => kk G2 H2 (s1.trans g2.gg) (r1.grow g2)
end
/-- a def that may raise -/
theorem fnX {P : Program} {w : World} {K : Fr} {mg : Str → Option Value} {base : Heap} {x qual : Str} {st : Stmt} {f : Addr} {fd : FuncData} {N ps : List Str} {k : Nat} {cm : Str → Value} {W : List Nat} {body : MXS} (F : Fun K x qual st f fd) (S : FnScope N ps (defScope st))
    (h : ∀ (cdv : Value) (A : Around) (outer : List Env) (s : Shared) (H : Hp) (E : XK), Room k (A.deeper (envOfC qual (defScope st) s.heap.objs.size f cdv)) → PSs (cxOf (L2.CX P w) P w K mg base N qual (defScope st) f cdv A outer s H E) (defBody st) (tZS K cm (fun cls d _ H => E cls d H) W body)) :
    FnOk P w K mg base (L2.CX P w) (k + 1) f fd ps (spX K cm (runX ps.length N.length body) ps.length) := by
  refine F.okX S (fun vs H Q E h => h.1) (fun cdv A outer s H vs Q E hr hsp => ⟨_, h cdv A outer s H E hr, ?_⟩)
  obtain ⟨hl, G, ds, y, sG, dd, e, k⟩ := hsp
  unfold runX at e
  split at e
  · rename_i hn
    let R : Hp := fun a => if G a = none then H a else none
    have hR : ∀ a o, R a = some o → G a = none ∧ H a = some o := fun a o q => by
      by_cases z : G a = none
      · exact ⟨z, by have := q; simp only [R, z, if_true] at this; exact this⟩
      · have := q; simp only [R, z, if_false] at this; cases this
    have hRi : ∀ a o, G a = none → H a = some o → R a = some o := fun a o z q => by simp only [R, z, if_true]; exact q
    have rep0 : Rep K R G H (ds.map Sl.dat ++ List.replicate (N.length - ps.length) Sl.un) (L2.start N vs) := by
      refine ⟨?_, fun a o q => (hR a o q).2, sG, fun a o q => .inl (hR a o q).1, fun i s hs => ?_, fun i j c c' p h1 h2 _ _ => ?_⟩
      · simp [L2.start, dd.length, ← hn]
      · by_cases hi : i < ds.length
        · rw [List.getElem?_append_left (by simpa using hi), List.getElem?_map] at hs
          rw [List.getElem?_eq_getElem hi] at hs
          cases hs
          obtain ⟨v, hv, dv⟩ := dd.get (List.getElem?_eq_getElem hi)
          refine ⟨v, ?_, dv⟩
          show (vs.map some ++ _)[i]? = _
          rw [List.getElem?_append_left (by rw [List.length_map, dd.length]; exact hi), List.getElem?_map, hv]
          rfl
        · rw [List.getElem?_append_right (by simpa using hi), List.getElem?_replicate] at hs
          split at hs
          · cases hs; trivial
          · cases hs
      · exfalso
        by_cases hi : i < ds.length
        · rw [List.getElem?_append_left (by simpa using hi), List.getElem?_map, List.getElem?_eq_getElem hi] at h1
          cases h1
        · rw [List.getElem?_append_right (by simpa using hi), List.getElem?_replicate] at h1
          split at h1 <;> cases h1
    have fin : ∀ G' H' (σ' : St) (ρ' : Ro), Same G G' → Rep K R G' H' ρ' σ' → Gr G H G' H' := fun G' H' σ' ρ' s r => by
      refine ⟨fun a o q => ?_, s, r.subG, fun a o q1 q2 => ?_⟩
      · cases z : G a with
        | none => exact r.subR a o (hRi a o z q)
        | some u =>
          have := sG a u z
          rw [q] at this
          cases this
          exact r.subG a _ (s a _ z)
      · cases z : H a with
        | none => exact .inl rfl
        | some u =>
          refine .inr ?_
          rcases r.dis a u (hRi a u q1 z) with w | w
          · rw [q2] at w; cases w
          · have w2 := r.subR a u (hRi a u q1 z)
            rw [r.subG a _ q2] at w2
            cases w2
            exact w
    rw [Option.bind_eq_some_iff] at e
    obtain ⟨⟨fl, ρ'⟩, q, e⟩ := e
    refine ⟨R, G, _, fl, ρ', rep0, q, ?_⟩
    cases fl with
    | er z => cases e; exact fun G' H' σ' s r _ => k G' H' (fin G' H' σ' _ s r)
    | ok fl =>
      cases fl with
      | nx => cases e; exact fun G' H' σ' s r _ => k G' H' _ (fin G' H' σ' _ s r) .non
      | bk => cases e
      | ct => cases e
      | rt d => cases e; exact fun G' H' σ' v s r _ dv => k G' H' v (fin G' H' σ' _ s r) dv
  · cases e

/-! ### isinstance of the exception that is handled -/
def eIsE (i : Nat) (a : Addr) (b : Bool) : M D := fun ρ => match ρ[i]? with
  | some (.ref (.adr c)) => if c = a then some (.bool b, ρ) else none
  | _ => none
section
variable {X : Cx} {pos p p1 p2 : Pos}
theorem call_isP {a C : Addr} {oe : Obj} (EC : ExcC X.K C) (hp : (a, oe) ∈ X.pn) (hz : Zc (.ref C) none oe) (hf : ∃ vs, oe.data = .fields vs) : CallR X (.builtin "isinstance") (rIsE X.K C a) := by
  intro pins s σ H xs us Q I rel want
  obtain ⟨c, cv, b, rfl, only, kit, q⟩ := want
  cases rel with
  | cons r1 rel =>
    cases rel with
    | cons r2 rel =>
      cases rel
      cases r1
      cases only _ r2
      have there := (I.pin (a, oe) (List.mem_append_left _ hp)).1
      obtain ⟨vs, hv⟩ := hf
      have inst : PySem.W.InstAt s.heap a oe C none := by
        obtain ⟨o1, o2, o3, o4⟩ := oe
        obtain ⟨z1, z2⟩ := hz
        dsimp only at z1 z2 hv
        subst z1 z2 hv
        exact ⟨there, rfl, rfl, trivial⟩
      exact PySem.W.kia_one (PySem.W.handS_kitx_exc EC.hg EC.hk EC.hs EC.hd EC.ha EC.hn EC.ht EC.hm) I.kIn inst kit (fun z => nomatch z) fun tk => ⟨.bl b, H, I.kept (t' := tk) fun _ _ z => z, rfl, q⟩
theorem qe_isE (i : Nat) {a C : Addr} {oe : Obj} (EC : ExcC X.K C) (hp : (a, oe) ∈ X.pn) (hz : Zc (.ref C) none oe) (hf : ∃ vs, oe.data = .fields vs) {x T : Str} {c : V} {cv : Value} {b : Bool} (hT : PE X (.Name T p2) (tC c)) (hc : ∀ u, RelV c u → u = cv) (hb : PySem.W.kitOne X.K (.ref C) cv = some b) (hm : X.mg "isinstance" = none)
    (hN : X.N[i]? = some x := by rfl) (hv : Vis X.env.scope x := by first | exact Or.inl rfl | exact Or.inr (Or.inl rfl) | exact Or.inr (Or.inr rfl)) (hd : (x == ("__debug__" : Str)) = false := by decide) (hcd : (x == ("__classdict__" : Str)) = false := by decide) (hg : Gl X "isinstance" := by rfl)
    (h1 : starEach [.Name T p2] X.env = (false, eval (.Name T p2) X.env) :: starEach [] X.env := by rfl) (h2 : starEach [.Name x p1, .Name T p2] X.env = (false, eval (.Name x p1) X.env) :: starEach [.Name T p2] X.env := by rfl) (hpl : (backTo pos (starEach [.Name T p2] X.env)).any (·.1) = false := by rfl) :
    QE X (.Call (.Name "isinstance" p) [.Name x p1, .Name T p2] [] pos) (eIsE i a b) := by
  refine PE.imp (pe_callB (call_isP EC hp hz hf) hg hm (by decide +kernel) (pa_cons (pe_var hN hv hd hcd) (pa_cons hT pa_nil h1) h2) (by decide) (by decide) h2 hpl) fun σ H Q h => ?_
  obtain ⟨R, G, ρ, d, ρ', rp, e, k⟩ := h
  unfold eIsE at e
  split at e
  · rename_i c' hs
    split at e
    · rename_i hc'
      subst hc'
      cases e
      have so := rp.slot i _ hs
      exact ⟨.ref c', so, c, cv, b, rfl, hc, hb, k G H _ (.refl _) rp (.bl b)⟩
    · cases e
  · cases e
end
/-! ### count and index of True in one's own list -/
def boolsOf : List D → Option (List Bool)
  | [] => some []
  | .bool b :: ds => (boolsOf ds).map fun bs => b :: bs
  | _ :: _ => none
theorem boolsOf_map : ∀ (ds : List D) (bs : List Bool), boolsOf ds = some bs → ds = bs.map PyData.bool
  | [], bs, h => by cases h; rfl
  | d :: ds, bs, h => by
    cases d with
    | bool b =>
      unfold boolsOf at h
      rw [Option.map_eq_some_iff] at h
      obtain ⟨cs, h1, h2⟩ := h
      subst h2
      rw [boolsOf_map ds cs h1]
      rfl
    | _ => cases h
theorem dqBools {K : Fr} {G : Hp} : ∀ {vs : List V} {bs : List Bool}, DqAll K G vs (bs.map PyData.bool) → vs = bs.map V.bl
  | [], [], _ => rfl
  | v :: vs, b :: bs, h => by
    cases h with
    | cons a r =>
      cases a
      rw [dqBools r]
      rfl
theorem flat_bools : ∀ bs : List Bool, (bs.map V.bl).all flatV = true
  | [] => rfl
  | b :: bs => by rw [List.map_cons, List.all_cons, flat_bools bs]; rfl
def eCountT (i : Nat) (a : M D) : M D := fun ρ => (ownL ρ i).bind fun _ => (a ρ).bind fun p => (ownL p.2 i).bind fun ds => match p.1 with
  | .bool true => (boolsOf ds).map fun bs => (.int (bs.count true : Nat), p.2)
  | _ => none
def eIndexT (i : Nat) (a : M D) : M D := fun ρ => (ownL ρ i).bind fun _ => (a ρ).bind fun p => (ownL p.2 i).bind fun ds => match p.1 with
  | .bool true => (boolsOf ds).bind fun bs => if true ∈ bs then some (.int (bs.idxOf true : Nat), p.2) else none
  | _ => none
section
variable {X : Cx} {a : Expr} {p apos cpos : Pos} {x : Str}
def rCntB (K : Fr) : V → List V → Hp → VK → Prop := fun x xs H Q => ∃ (q : Addr) (bs : List Bool), x = .ref q ∧ xs = [.bl true] ∧ SqL K H q (bs.map V.bl) ∧ Q (.int (bs.count true : Nat)) H
theorem cntB : ∀ {bs : List Bool} {its : List Value}, Vals (bs.map V.bl) its → its.countP (eqU (.bl true)) = bs.count true
  | [], _, .nil => rfl
  | b :: bs, _, .cons r t => by
    cases r
    rw [List.countP_cons, cntB t, List.count_cons]
    cases b <;> rfl
theorem mt_lcountB : MtR X "list.count" (rCntB X.K) := by
  intro pins s σ H x xs v us Q I rx rxs h
  obtain ⟨q, bs, rfl, rfl, hs, k⟩ := h
  cases rx
  cases rxs with
  | cons ry rt =>
    cases rt
    cases ry
    obtain ⟨its, rv, ⟨⟨cls, dd, data, sl⟩, n, ho, hc, hdn, hd⟩, hlen⟩ := I.list hs
    simp only at hc hd
    subst hc hd
    refine call_meets PySem.F.slot_list_count ⟨_, ho, rfl⟩ PySem.F.entry_list_count (PySem.F.args_list_count_2 _ _)
      (SeqAt.list_countAt q its.toArray n dd sl (.bool true) (eqU (.bl true))) ⟨ho, fun u' hu' => mem_eqAt (x := .bl true) rfl rfl rv (flat_bools bs) u' (by simpa using hu'), ?_⟩
    have ec : its.toArray.toList.countP (eqU (.bl true)) = bs.count true := by
      have e0 : its.toArray.toList = its := by simp
      rw [e0]; exact cntB rv
    refine ⟨.int (bs.count true : Nat), H, I.tok _, ⟨s.toks, ?_⟩, k⟩
    rw [ec]
theorem qe_countT (i : Nat) {m : M D} (ha : QE X a m) (hN : X.N[i]? = some x := by rfl) (hv : Vis X.env.scope x := by first | exact Or.inl rfl | exact Or.inr (Or.inl rfl) | exact Or.inr (Or.inr rfl)) (hd : (x == ("__debug__" : Str)) = false := by decide) (hcd : (x == ("__classdict__" : Str)) = false := by decide)
    (hbase : attributeBase (.Name x p) "count" X.env (eval (.Name x p) X.env) = eval (.Name x p) X.env := by rfl)
    (hfew : ((backTo cpos (starEach [a] X.env)).all (fun x => !x.1) && (backToKw cpos (keywordEach [] X.env)).all (fun x => x.1.isSome)
      && decide ([a].length + ([] : List Keyword).length + (if ([] : List Keyword).isEmpty then 0 else 1) < 30)) = true := by rfl)
    (hline : (apos.endLine == cpos.line) = true := by rfl) (hs : starEach [a] X.env = (false, eval a X.env) :: starEach [] X.env := by rfl) (hplain : (backTo cpos (starEach [] X.env)).any (·.1) = false := by rfl) :
    QE X (.Call (.Attribute (.Name x p) "count" apos) [a] [] cpos) (eCountT i m) := by
  refine PE.imp (pe_bm PySem.F.plainAttrs_list PySem.F.slot_list_count PySem.F.type_list_count mt_lcountB (pe_var hN hv hd hcd) (pa_cons ha pa_nil hs) hbase hfew hline hs hplain) fun σ H Q h => ?_
  obtain ⟨R, G, ρ, d, ρ', rp, e, k⟩ := h
  unfold eCountT at e
  rw [Option.bind_eq_some_iff] at e
  obtain ⟨ds0, h0, e⟩ := e
  rw [Option.bind_eq_some_iff] at e
  obtain ⟨⟨y, ρ1⟩, h1, e⟩ := e
  rw [Option.bind_eq_some_iff] at e
  obtain ⟨ds, h2, e⟩ := e
  split at e
  · rename_i hy
    simp only at hy
    subst hy
    rw [Option.map_eq_some_iff] at e
    obtain ⟨bs, hb, e⟩ := e
    cases e
    obtain ⟨q, vs0, eq0, hq0, _⟩ := rp.ownAt (ownL_some h0)
    refine ⟨.ref q, eq0, .inl ⟨rfl, _, SqL.of hq0⟩, R, G, ρ, _, ρ1, rp, h1, fun G1 H1 v1 s1 r1 d1 => ?_⟩
    obtain ⟨q', vs, eq, hq, dv⟩ := r1.ownAt (ownL_some h2)
    rw [eq0] at eq
    cases eq
    cases d1
    rw [boolsOf_map ds bs hb] at dv
    rw [dqBools dv] at hq
    exact ⟨_, bs, rfl, rfl, SqL.of hq, k G1 H1 _ s1 r1 (.int _)⟩
  · cases e
theorem before_true : ∀ (bs : List Bool) (m : Nat) (z : Bool), m < bs.idxOf true → bs[m]? = some z → z = false
  | [], m, z, h, _ => by simp at h
  | b :: bs, m, z, h, e => by
    cases b with
    | true => simp at h
    | false =>
      have hq : (false == true) = false := rfl
      rw [List.idxOf_cons, hq] at h
      simp only [cond_false] at h
      cases m with
      | zero => simp at e; exact e
      | succ m => exact before_true bs m z (by omega) (by simpa using e)
theorem qe_indexT (i : Nat) {m : M D} (ha : QE X a m) (hN : X.N[i]? = some x := by rfl) (hv : Vis X.env.scope x := by first | exact Or.inl rfl | exact Or.inr (Or.inl rfl) | exact Or.inr (Or.inr rfl)) (hd : (x == ("__debug__" : Str)) = false := by decide) (hcd : (x == ("__classdict__" : Str)) = false := by decide)
    (hbase : attributeBase (.Name x p) "index" X.env (eval (.Name x p) X.env) = eval (.Name x p) X.env := by rfl)
    (hfew : ((backTo cpos (starEach [a] X.env)).all (fun x => !x.1) && (backToKw cpos (keywordEach [] X.env)).all (fun x => x.1.isSome)
      && decide ([a].length + ([] : List Keyword).length + (if ([] : List Keyword).isEmpty then 0 else 1) < 30)) = true := by rfl)
    (hline : (apos.endLine == cpos.line) = true := by rfl) (hs : starEach [a] X.env = (false, eval a X.env) :: starEach [] X.env := by rfl) (hplain : (backTo cpos (starEach [] X.env)).any (·.1) = false := by rfl) :
    QE X (.Call (.Attribute (.Name x p) "index" apos) [a] [] cpos) (eIndexT i m) := by
  refine PE.imp (pe_bm PySem.F.plainAttrs_list PySem.F.slot_list_index PySem.F.type_list_index mt_index (pe_var hN hv hd hcd) (pa_cons ha pa_nil hs) hbase hfew hline hs hplain) fun σ H Q h => ?_
  obtain ⟨R, G, ρ, d, ρ', rp, e, k⟩ := h
  unfold eIndexT at e
  rw [Option.bind_eq_some_iff] at e
  obtain ⟨ds0, h0, e⟩ := e
  rw [Option.bind_eq_some_iff] at e
  obtain ⟨⟨y, ρ1⟩, h1, e⟩ := e
  rw [Option.bind_eq_some_iff] at e
  obtain ⟨ds, h2, e⟩ := e
  split at e
  · rename_i hy
    simp only at hy
    subst hy
    rw [Option.bind_eq_some_iff] at e
    obtain ⟨bs, hb, e⟩ := e
    split at e
    · rename_i hm
      cases e
      obtain ⟨q, vs0, eq0, hq0, _⟩ := rp.ownAt (ownL_some h0)
      refine ⟨.ref q, eq0, .inl ⟨rfl, _, SqL.of hq0⟩, R, G, ρ, _, ρ1, rp, h1, fun G1 H1 v1 s1 r1 d1 => ?_⟩
      obtain ⟨q', vs, eq, hq, dv⟩ := r1.ownAt (ownL_some h2)
      rw [eq0] at eq
      cases eq
      cases d1
      rw [boolsOf_map ds bs hb] at dv
      rw [dqBools dv] at hq
      have hlt := List.idxOf_lt_length_of_mem hm
      refine ⟨q, bs.map V.bl, .bl true, bs.idxOf true, .bl true, rfl, rfl, SqL.of hq, rfl, flat_bools bs, ?_, rfl, fun l z hl hz => ?_, k G1 H1 _ s1 r1 (.int _)⟩
      · rw [List.getElem?_map, List.getElem?_eq_getElem hlt, List.getElem_idxOf hlt]
        rfl
      · rw [List.getElem?_map] at hz
        cases hz2 : bs[l]? with
        | none => rw [hz2] at hz; cases hz
        | some z' =>
          rw [hz2] at hz
          cases hz
          rw [before_true bs l z' hl hz2]
          rfl
    · cases e
  · cases e
end

/-! ### a def that is told the handled exception -/
theorem _root_.L2H.RoomH.units {k : Nat} {A : Around} (r : RoomH k A) : A.units + 64 < cLine := by have := r.un; omega
structure FnW (P : Program) (w : World) (K : Fr) (mg : Str → Option Value) (base : Heap) (k : Nat) (f : Addr) (fd : FuncData) (x : Str) (C : Addr) (d : D) : Prop where
  run : ∀ (A : Around) (outer : List Env) (s : Shared) (H G : Hp) (args : Args) (a : Addr) (oe : Obj) (Q : VK), RoomH k A → PinOk outer H s (a, oe) → Zc (.ref C) none oe → (∃ vs, oe.data = .fields vs) → Env0 P w K mg base A outer s H → BindsTo s fd args [(x, .ref a)] → Same G H →
    (∀ G' H' v, Gr G H G' H' → Dq K G' v d → Q v H') → codeAny (model P w) A (.call (.ref f) args) (CR CX0 outer P w H s Q fun _ _ _ => False) s
theorem fnW {P : Program} {w : World} {K : Fr} {mg : Str → Option Value} {base : Heap} {nm qual x : Str} {st : Stmt} {f C : Addr} {fd : FuncData} {N : List Str} {k : Nat} {W : List Nat} {body : Addr → MS} {d : D} (F : Fun K nm qual st f fd) (S : FnScope N [x] (defScope st))
    (h : ∀ (cdv : Value) (A : Around) (outer : List Env) (s : Shared) (H : Hp) (E : XK) (a : Addr) (oe : Obj), RoomH k (A.deeper (envOfC qual (defScope st) s.heap.objs.size f cdv)) → Zc (.ref C) none oe → (∃ vs, oe.data = .fields vs) → QSs (cxH CX0 P w K mg base N qual (defScope st) f cdv A outer s H E (a, oe)) W (defBody st) (body a))
    (hb : ∀ a, ∃ ρ', body a (Sl.ref (.adr a) :: List.replicate (N.length - 1) Sl.un) = some (.rt d, ρ')) : FnW P w K mg base (k + 1) f fd x C d := by
  obtain ⟨oc, od, kV, doc, pm, an, cdv, ct, osl, rfl, lk, hcd⟩ := F.ex
  refine ⟨fun A outer s H G args a oe Q hr hpin hz hf e0 bind sG want => ?_⟩
  have inK : K.In s.heap := e0.mod.kin.keeps fun b o e => (e0.bs b o e).1
  have noL : s.heap.NoLimit := e0.mod.nolimit.keeps fun b o e => (e0.bs b o e).1
  have kinds : ∀ y ∈ [(x, Value.ref a)], (defScope st).names.lookup y.1 = some .local ∨ ((defScope st).names.lookup y.1 = some .cell ∧ ((cellsFrom (s.heap.objs.size + 1) (defScope st).names []).lookup y.1).isSome = true) := fun y hy => by
    have ey : y = (x, Value.ref a) := by simpa using hy
    subst ey
    exact (S.par x (by simp)).imp id fun q => ⟨q, PySem.W.cellsFrom_some _ _ _ (.inl q)⟩
  refine codeAny_call_function hr.depth (inK _ _ lk) rfl S.co S.gen rfl (PySem.W.codeRec_of inK hcd) (bind _ _ _ _ (wpAny_newFunctionEnv_cells S.kind kinds fun env he s1 x1 => ?_))
  subst he
  refine ⟨noL.keeps x1.toInCall.keep, codeAny_func ?_⟩
  have I : Inv (cxH CX0 P w K mg base N qual (defScope st) f cdv A outer s H (fun _ _ _ => False) (a, oe)) [] (L2.start N [V.ref a]) H s1 := inv_startH (us := [Value.ref a]) S hpin e0 rfl (.cons rfl .nil) x1
  let R : Hp := fun b => if G b = none then H b else none
  have hR : ∀ b o, R b = some o → G b = none ∧ H b = some o := fun b o q => by
    by_cases z : G b = none
    · exact ⟨z, by have := q; simp only [R, z, if_true] at this; exact this⟩
    · have := q; simp only [R, z, if_false] at this; cases this
  have hRi : ∀ b o, G b = none → H b = some o → R b = some o := fun b o z q => by simp only [R, z, if_true]; exact q
  have hNl : 1 ≤ N.length := by
    have := congrArg List.length S.pre
    rw [List.length_take] at this
    simp at this
    omega
  have rep0 : Rep K R G H (Sl.ref (.adr a) :: List.replicate (N.length - 1) Sl.un) (L2.start N [V.ref a]) := by
    refine ⟨?_, fun b o q => (hR b o q).2, sG, fun b o q => .inl (hR b o q).1, fun i t ht => ?_, fun i j c c' p h1 h2 _ _ => ?_⟩
    · simp [L2.start]
    · cases i with
      | zero => simp at ht; subst ht; exact rfl
      | succ i =>
        rw [List.getElem?_cons_succ, List.getElem?_replicate] at ht
        split at ht
        · cases ht; trivial
        · cases ht
    · exfalso
      cases i with
      | zero => simp at h1
      | succ i =>
        rw [List.getElem?_cons_succ, List.getElem?_replicate] at h1
        split at h1 <;> cases h1
  obtain ⟨ρ', eb⟩ := hb a
  refine wpAny_mono ((h cdv A outer s H (fun _ _ _ => False) a oe (hr.deeper _) hz hf).run [] s1 (L2.start N [V.ref a]) H { nx := fun _ H' => Q .non H', rt := Q } I ⟨R, G, _, .rt d, ρ', rep0, eb, fun G' H' σ' v sg r _ dv => want G' H' v ?_ dv⟩) (fun fl s' hs => ?_) fun e s' hs => hs
  · refine ⟨fun b o q => ?_, sg, r.subG, fun b o q1 q2 => ?_⟩
    · cases z : G b with
      | none => exact r.subR b o (hRi b o z q)
      | some u =>
        have := sG b u z
        rw [q] at this
        cases this
        exact r.subG b _ (sg b _ z)
    · cases z : H b with
      | none => exact .inl rfl
      | some u =>
        refine .inr ?_
        rcases r.dis b u (hRi b u q1 z) with w | w
        · rw [q2] at w; cases w
        · have w2 := r.subR b u (hRi b u q1 z)
          rw [r.subG b _ q2] at w2
          cases w2
          exact w
  · cases fl with
    | ret u =>
      obtain ⟨v, σ', H', J, rv, q⟩ := hs
      exact ⟨v, H', J.os, J.bare, J.base, J.hok, rv, q⟩
    | next =>
      obtain ⟨σ', H', J, q⟩ := hs
      exact ⟨.non, H', J.os, J.bare, J.base, J.hok, rfl, q⟩
    | brk => exact (let ⟨_, _, _, q⟩ := hs; False.elim q)
    | cont => exact (let ⟨_, _, _, q⟩ := hs; False.elim q)
section
variable {X : Cx} {pos p p1 : Pos}
theorem pe_callW {y x n : Str} {k i : Nat} {f C a : Addr} {oe : Obj} {fd : FuncData} {d : D} (F : FnW X.prog X.w X.K X.mg X.base k f fd x C d) (hr : RoomH k X.A) (hp : (a, oe) ∈ X.pn) (hz : Zc (.ref C) none oe) (hf : ∃ vs, oe.data = .fields vs) (hm : X.mg y = some (.ref f)) (hk : PySem.W.keepIn X.K (.ref f) = true) (hb : Binds X.K fd [x] [])
    (hg : Gl X y) (hN : X.N[i]? = some n) (hv : Vis X.env.scope n) (hd : (n == ("__debug__" : Str)) = false) (hcd : (n == ("__classdict__" : Str)) = false) (hdb : (y == ("__debug__" : Str)) = false)
    (he : starEach [.Name n p1] X.env = (false, eval (.Name n p1) X.env) :: starEach [] X.env) (hpl : (backTo pos (starEach [] X.env)).any (·.1) = false) :
    PE X (.Call (.Name y p) [.Name n p1] [] pos) (fun σ H Q => σ[i]? = some (some (.ref a)) ∧ ∃ G, Same G H ∧ ∀ G' H' v, Gr G H G' H' → Dq X.K G' v d → Q v H') := by
  refine ⟨fun pins s σ H Q I want => ?_⟩
  obtain ⟨hi, G, sG, want⟩ := want
  refine wpAny_Call_Name_kw (ld_glob I hg hm ?_ hdb)
  have ha : PA X [.Name n p1] (tCons (tVar i) tNil) := pa_cons (pe_var hN hv hd hcd) pa_nil he
  refine PySem.W.callWith_K (h₀ := X.base) I.ok.mod.kin hk (thn (ha.run pos pins s σ H (fun vs H1 => vs = [V.ref a] ∧ H1 = H) I ⟨_, hi, rfl, rfl⟩) fun us s1 hh => ?_) he hpl
  obtain ⟨vs, H1, J, rel, rfl, rfl⟩ := hh
  refine ⟨J.kIn, ?_⟩
  cases rel with
  | cons r1 rel =>
    cases rel
    cases r1
    have bnd := hb s1 [Value.ref a] J.kIn rfl
    obtain ⟨g1, g2, g3, g4, g5⟩ := J.pin (a, oe) (List.mem_append_left _ hp)
    refine wpAny_call (codeAny_mono (F.run X.A X.stack s1 H1 G ⟨[.ref a], []⟩ a oe Q hr ⟨g1, g2, fun hm => (List.mem_cons.mp (J.stkSub a hm)).elim g3 g4, g5⟩ hz hf J.env0 bnd sG want) fun r s' hq => ?_)
    cases r with
    | error e => exact False.elim hq
    | ok fl =>
      cases fl with
      | ret u => exact J.after hq
      | next => exact False.elim hq
      | brk => exact False.elim hq
      | cont => exact False.elim hq
/-- try: .. except y as n: return which(n) -/
def sTryW (i : Nat) (m : MXS) (Wh : Str → Option D) : MS := fun ρ => (m ρ).bind fun p => match p.1 with
  | .ok f => some (f, p.2)
  | .er z => if i < p.2.length then (Wh z).map fun d => (.rt d, p.2.set i .un) else none
theorem qs_tryW (i : Nat) {y n x g : Str} {c : Value} {k : Nat} {f : Addr} {fd : FuncData} {cm : Str → Value} {m : MXS} {Wh : Str → Option D} {body : List Stmt} {np hpos pos pr pc pg pn' : Pos} {W : List Nat}
    (FW : ∀ z d, Wh z = some d → ∃ C, cm z = .ref C ∧ FnW X.prog X.w X.K X.mg X.base k f fd x C d) (hr : Room k X.A) (hm : X.mg g = some (.ref f)) (hk : PySem.W.keepIn X.K (.ref f) = true) (hb : Binds X.K fd [x] [])
    (hnd : X.N.Nodup) (hn : Names X y c) (hall : ∀ z d, Wh z = some d → PySem.W.exmOne X.K (cm z) c = some true)
    (hbd : ∀ pn xe Wx, Takes (X.tr pn xe) Wx → PSs (X.tr pn xe) body (tZS X.K cm Wx W m))
    (hN : X.N[i]? = some n := by rfl) (hln : X.env.kindOf n = some .local := by rfl) (hs : X.stack = X.env :: X.outer := by rfl) (hf : X.env.frame = some X.env.locals := by rfl) (hg : Gl X g := by rfl) (hd : (n == ("__debug__" : Str)) = false := by decide) (hcd : (n == ("__classdict__" : Str)) = false := by decide) (hdb : (g == ("__debug__" : Str)) = false := by decide)
    (he : starEach [.Name n pn'] X.env = (false, eval (.Name n pn') X.env) :: starEach [] X.env := by rfl) (hpl : (backTo pc (starEach [] X.env)).any (·.1) = false := by rfl) :
    QS X (W ++ [i]) (.Try body [.ExceptHandler (some (.Name y np)) (some n) [.Return (some (.Call (.Name g pg) [.Name n pn'] [] pc)) pr] hpos] [] [] pos) (sTryW i m Wh) := by
  have key := ps_try_as (X := X) (x := y) (n := n) (c := c) (i := i) (body := body) (suite := []) (b₀ := .Return (some (.Call (.Name g pg) [.Name n pn'] [] pc)) pr) (np := np) (pos := pos) (pos' := hpos) (Wout := fun _ _ _ _ => False)
    (tb := fun Wx => tZS X.K cm Wx W m) (ts := fun a cls d => fun E σ H => σ[i]? = some (some (.ref a)) ∧ ∃ z dv, cls = cm z ∧ Wh z = some dv ∧ d = none ∧ ∃ G, Same G H ∧ ∀ G' H' v, Gr G H G' H' → Dq X.K G' v dv → E.rt v H') hs hf hnd hN hln hn takes0
    (fun Wx pn xe tk _ => hbd pn xe Wx tk)
    (fun a oe cls d pn hz hfl => ⟨fun pins s σ H E I want => by
      obtain ⟨hi, z, dv, ec, ew, ed, G, sG, want⟩ := want
      subst ec ed
      obtain ⟨C, eC, F1⟩ := FW z dv ew
      rw [eC] at hz
      have call := pe_callW (X := X.suite a ((a, oe) :: pn)) (i := i) (pos := pc) (p := pg) (p1 := pn') F1 ⟨hr.dp, hr.un⟩ List.mem_cons_self hz hfl hm hk hb hg hN (.inl hln) hd hcd hdb he hpl
      exact (pss_one (ps_ret call)).run pins s σ H E I ⟨hi, G, sG, want⟩⟩)
  refine PS.imp key fun E σ H h => ?_
  obtain ⟨R, G, ρ, fl, ρ', rp, e, kk⟩ := h
  unfold sTryW at e
  rw [Option.bind_eq_some_iff] at e
  obtain ⟨⟨r, ρ1⟩, h1, e⟩ := e
  refine ⟨R, G, ρ, r, ρ1, rp, h1, ?_⟩
  cases r with
  | ok f => cases e; exact flQ_mono kk (.refl _) fun σ' z => z.mono fun j hj => List.mem_append_left _ hj
  | er z =>
    simp only at e
    split at e
    case isFalse => cases e
    rename_i hl
    rw [Option.map_eq_some_iff] at e
    obtain ⟨dv, ew, e⟩ := e
    cases e
    intro G1 H1 σ1 s1 r1 f1
    refine ⟨true, hall z dv ew, fun _ a na => ⟨?_, z, dv, rfl, ew, rfl, G1, r1.subG, fun G2 H2 v g2 dq => ?_⟩, fun z => by cases z⟩
    · rw [List.getElem?_set_self (by rw [← r1.len]; exact hl)]
    · exact kk G2 H2 (σ1.set i none) v (s1.trans g2.gg) ((r1.grow g2).forget i none) (fun j hj => by rw [List.getElem?_set_ne (fun z => hj (List.mem_append_right _ (by simp [z]))), f1 j fun z => hj (List.mem_append_left _ z)]) dq
end
/-! ### len(set(xs)), xs a list of whole numbers -/
def setLen (ns : List Int) : Nat := (ns.foldl PyProof.Rows.step_dedup []).length
theorem range_getD (ns : List Int) : (List.range ns.length).map (fun i => ns.getD i 0) = ns := by
  apply List.ext_getElem?
  intro i
  rw [List.getElem?_map]
  by_cases h : i < ns.length
  · rw [List.getElem?_range h, List.getElem?_eq_getElem h, Option.map_some, List.getD_eq_getElem?_getD, List.getElem?_eq_getElem h]
    rfl
  · rw [List.getElem?_eq_none (by simpa using h), List.getElem?_eq_none (by simpa using h)]
    rfl
theorem firstMet_len (ns : List Int) : (PyProof.Rows.firstMet (fun i => ns.getD i 0) ns.length).length = setLen ns := by
  unfold PyProof.Rows.firstMet setLen
  rw [range_getD]
def dLenSet : D → Option D
  | .list ds => (intsOf ds).bind fun ns => if ns.length < 64 then some (.int (setLen ns : Nat)) else none
  | _ => none
section
variable {X : Cx} {a : Expr} {p p2 q pos : Pos}
theorem qe_lenSet {m : M D} (ha : QE X a m) (hm : X.mg "len" = none) (hm2 : X.mg "set" = none) (hg : Gl X "len" := by rfl) (hg2 : Gl X "set" := by rfl) (hc : X.calm = true := by rfl)
    (na : starEach [a] X.env = (false, eval a X.env) :: starEach [] X.env := by rfl) : QE X (.Call (.Name "len" p) [.Call (.Name "set" p2) [a] [] q] [] pos) (eOp1 dLenSet m) := by
  refine ⟨fun pins s σ H Q I want => ?_⟩
  obtain ⟨R, G, ρ, d, ρ', rp, e, k⟩ := want
  unfold eOp1 at e
  rw [Option.bind_eq_some_iff] at e
  obtain ⟨⟨x, ρ1⟩, h1, e⟩ := e
  rw [Option.map_eq_some_iff] at e
  obtain ⟨z, h2, e⟩ := e
  cases e
  refine Call_ (ld_blt I hg hm PySem.boot_len (PyProof.Rows.callWith_builtin1 (PyProof.Rows.args_cons ?_ rfl) rfl rfl))
  refine Call_ (ld_blt I hg2 hm2 PyProof.Rows.boot_set (PyProof.Rows.callWith_type1 (PyProof.Rows.args_cons (thn (ha.run pins s σ H (fun v H1 => ∃ (l : Addr) (ns : List Int), v = .ref l ∧ SqL X.K H1 l (ns.map V.int) ∧ ns.length < 64 ∧ Q (.int (setLen ns : Nat)) H1) I ⟨R, G, ρ, x, _, rp, h1, fun G1 H1 v1 s1 r1 d1 => ?_⟩) fun v s1 ⟨x1, H1, I1, rel, q1⟩ => PyProof.Rows.args_nil ?_) na) na rfl))
  · cases d1 with
    | lst hq dv =>
      unfold dLenSet at h2
      rw [Option.bind_eq_some_iff] at h2
      obtain ⟨ns, hn, h2⟩ := h2
      split at h2
      · rename_i hl
        cases h2
        have e1 := intsOf_map _ ns hn
        subst e1
        have e2 := dqInts dv
        subst e2
        exact ⟨_, ns, rfl, SqL.of (r1.subG _ _ hq), hl, k G1 H1 _ s1 r1 (.int _)⟩
      · cases h2
    | _ => cases h2
  · obtain ⟨l, ns, rfl, hq, hl, q1⟩ := q1
    cases rel
    obtain ⟨its, rv, pl, hz⟩ := I1.list hq
    have hsz : its.toArray.size = ns.length := by rw [List.size_toArray, ← rv.length, List.length_map]
    refine PySem.call_set_list (I1.ok.hd hc) pl.isList (ns := ns) (by simpa using rv.ints) (by unfold scanBound; omega) fun h' tk hS hk => ?_
    rw [hsz, firstMet_len] at hS
    refine PyProof.Rows.args_nil ?_
    obtain ⟨o, es, ep, t, ho, hex, hd, _, _, _, hf, hn⟩ := hS
    have I2 : Inv X pins σ H1 { s1 with heap := h', toks := tk } := I1.kept fun b o e => hk b o (Heap.lt_size e) e
    have hle : setLen ns ≤ ns.length := by rw [← firstMet_len]; exact PyProof.Rows.firstMet_length_le _ _
    refine call_len_set ho hex hd hf (by rw [hn] <;> omega) ⟨.int (setLen ns : Nat), H1, I2.tok _, ⟨_, by rw [hn]⟩, q1⟩
end
end QL
set_option Elab.async false
set_option linter.all false
set_option maxRecDepth 100000
set_option maxHeartbeats 1000000
/-! ### own dicts whose keys are tuples of whole numbers -/
namespace QL
open PySem PySem.Spec PyProof.Rows L2
abbrev KtR (K : Fr) (G : Hp) : List Int × D → List Key × V → Prop := fun p q => q.1 = p.1.map Sum.inl ∧ Dq K G q.2 p.2
def ownT (ρ : Ro) (i : Nat) : Option (List (List Int × D)) := match ρ[i]? with
  | some (.own (.dt t)) => some t
  | _ => none
theorem ownT_some {ρ : Ro} {i : Nat} {t : List (List Int × D)} (h : ownT ρ i = some t) : ρ[i]? = some (.own (.dt t)) := by
  unfold ownT at h
  split at h
  · cases h; assumption
  · cases h
def tkAt (ρ : Ro) (i : Nat) : Option (List Int) := match ρ[i]? with
  | some (.ref (.tk ns)) => some ns
  | _ => none
theorem tkAt_some {ρ : Ro} {i : Nat} {ns : List Int} (h : tkAt ρ i = some ns) : ρ[i]? = some (.ref (.tk ns)) := by
  unfold tkAt at h
  split at h
  · cases h; assumption
  · cases h
theorem Rep.ownTAt {K : Fr} {R G H : Hp} {ρ : Ro} {σ : St} {i : Nat} {t : List (List Int × D)} (r : Rep K R G H ρ σ) (h : ρ[i]? = some (.own (.dt t))) : ∃ p us, σ[i]? = some (some (.ref p)) ∧ H p = some (.dT us) ∧ Paired (KtR K G) t us := by
  obtain ⟨p, ho, e, hp, gp, rp, x⟩ := r.slot i _ h
  cases ho <;> try exact x.elim
  exact ⟨p, _, e, hp, x⟩
def valT (t : List (List Int × D)) (k : List Int) : Option D := (t.find? fun p => decide (p.1 = k)).map (·.2)
def putT (t : List (List Int × D)) (k : List Int) (d : D) : List (List Int × D) := if (t.any fun p => decide (p.1 = k)) = true then t.map (fun p => if p.1 = k then (p.1, d) else p) else t ++ [(k, d)]
theorem inl_inj : ∀ {a b : List Int}, a.map (Sum.inl (β := Str)) = b.map Sum.inl → a = b
  | [], [], _ => rfl
  | [], b :: bs, h => by cases h
  | a :: as, [], h => by cases h
  | a :: as, b :: bs, h => by
    rw [List.map_cons, List.map_cons] at h
    injection h with h1 h2
    rw [inl_inj h2, Sum.inl.inj h1]
theorem val_paired {K : Fr} {G : Hp} {k : List Int} {t : List (List Int × D)} {us : List (List Key × V)} (h : Paired (KtR K G) t us) : (valT t k = none ∧ valV us (k.map Sum.inl) = none) ∨ ∃ d v, valT t k = some d ∧ valV us (k.map Sum.inl) = some v ∧ Dq K G v d := by
  induction h with
  | nil => exact .inl ⟨rfl, rfl⟩
  | @cons p q ps qs hq _ ih =>
    obtain ⟨q1, q2⟩ := q
    obtain ⟨h1, h2⟩ := hq
    simp only at h1
    subst h1
    unfold valT valV at ih ⊢
    by_cases e : p.1 = k
    · refine .inr ⟨p.2, q2, ?_, ?_, h2⟩
      · rw [List.find?_cons_of_pos (by simpa using e)]; rfl
      · rw [List.find?_cons_of_pos (by simpa using congrArg (List.map Sum.inl) e)]; rfl
    · have e2 : ¬ p.1.map (Sum.inl (β := Str)) = k.map Sum.inl := fun z => e (inl_inj z)
      rw [List.find?_cons_of_neg (by simpa using e), List.find?_cons_of_neg (by simpa using e2)]
      exact ih
theorem putT_paired {K : Fr} {G : Hp} {k : List Int} {v : V} {d : D} (hd : Dq K G v d) {t : List (List Int × D)} {us : List (List Key × V)} (h : Paired (KtR K G) t us) : Paired (KtR K G) (putT t k d) (putK us (k.map Sum.inl) v) := by
  have ha : ∀ {t : List (List Int × D)} {us : List (List Key × V)}, Paired (KtR K G) t us → (t.any fun p => decide (p.1 = k)) = (us.any fun q => decide (q.1 = k.map Sum.inl)) := by
    intro t us h
    induction h with
    | nil => rfl
    | @cons p q ps qs hq _ ih =>
      rw [List.any_cons, List.any_cons, ih, hq.1]
      congr 1
      by_cases e : p.1 = k
      · simp [e]
      · have e2 : ¬ p.1.map (Sum.inl (β := Str)) = k.map Sum.inl := fun z => e (inl_inj z)
        rw [decide_eq_false e, decide_eq_false e2]
  have hm : ∀ {t : List (List Int × D)} {us : List (List Key × V)}, Paired (KtR K G) t us → Paired (KtR K G) (t.map (fun p => if p.1 = k then (p.1, d) else p)) (us.map (fun kv => if kv.1 = k.map Sum.inl then (kv.1, v) else kv)) := by
    intro t us h
    induction h with
    | nil => exact .nil
    | @cons a b as bs h _ ih =>
      rw [List.map_cons, List.map_cons]
      refine .cons ?_ ih
      obtain ⟨b1, b2⟩ := b
      obtain ⟨h1, h2⟩ := h
      simp only at h1
      subst h1
      by_cases q : a.1 = k
      · rw [if_pos q, if_pos (by rw [q])]; exact ⟨rfl, hd⟩
      · rw [if_neg q, if_neg (fun z => q (inl_inj z))]; exact ⟨rfl, h2⟩
  have hp : ∀ {t : List (List Int × D)} {us : List (List Key × V)}, Paired (KtR K G) t us → Paired (KtR K G) (t ++ [(k, d)]) (us ++ [(k.map Sum.inl, v)]) := by
    intro t us h
    induction h with
    | nil => exact .cons ⟨rfl, hd⟩ .nil
    | cons h _ ih => exact .cons h ih
  unfold putT putK
  rw [ha h]
  by_cases q : (us.any fun q => decide (q.1 = k.map Sum.inl)) = true
  · rw [if_pos q, if_pos q]; exact hm h
  · rw [if_neg q, if_neg q]; exact hp h
theorem kvInts (ns : List Int) : (ns.map (Sum.inl (β := Str))).map kV = ns.map V.int := by rw [List.map_map]; rfl
def oDT0 : M Ow := fun ρ => some (.dt [], ρ)
def sTk (i : Nat) (m : M (List D)) : MS := fun ρ => (m ρ).bind fun p => (intsOf p.1).bind fun ns => if ns.length ≤ 1000000 then some (.nx, p.2.set i (.ref (.tk ns))) else none
def eInT (j i : Nat) : M D := fun ρ => (tkAt ρ j).bind fun k => (ownT ρ i).map fun t => (.bool (valT t k).isSome, ρ)
def eGetT (i j : Nat) : M D := fun ρ => (tkAt ρ j).bind fun k => (ownT ρ i).bind fun t => (valT t k).map fun d => (d, ρ)
def eGetTD (i : Nat) (a : M D) : M D := fun ρ => (ownT ρ i).bind fun _ => (a ρ).bind fun p => match p.1 with
  | .tuple ds => (intsOf ds).bind fun k => (ownT p.2 i).bind fun t => (valT t k).map fun d => (d, p.2)
  | _ => none
def sPutT (i j : Nat) (b : M D) : MS := fun ρ => (b ρ).bind fun p => (tkAt p.2 j).bind fun k => (ownT p.2 i).bind fun t => if t.length < 1000000 then some (.nx, p.2.set i (.own (.dt (putT t k p.1)))) else none
def sPutTD (i : Nat) (ks : M (List D)) (b : M D) : MS := fun ρ => (b ρ).bind fun p => (ownT p.2 i).bind fun _ => (ks p.2).bind fun q => (intsOf q.1).bind fun k => (ownT q.2 i).bind fun t => if t.length < 1000000 ∧ k.length ≤ 1000000 then some (.nx, q.2.set i (.own (.dt (putT t k p.1)))) else none
def prOf : List Int → Int × Int
  | [a, b] => (a, b)
  | _ => (0, 0)
def lexLe (p q : Int × Int) : Bool := decide (p.1 < q.1 ∨ (p.1 = q.1 ∧ p.2 ≤ q.2))
def prD (p : Int × Int) : D := .tuple [.int p.1, .int p.2]
def eSortT (i : Nat) : M D := fun ρ => (ownT ρ i).bind fun t => if t.all (fun p => decide (p.1.length = 2)) = true then some (.list (((t.map fun p => prOf p.1).mergeSort lexLe).map prD), ρ) else none
theorem lex_one {a b : List (Int × Int)} (p : a.Perm b) (h1 : a.Pairwise fun x y => lexLe x y = true) : a = b.mergeSort lexLe := by
  have h2 := List.pairwise_mergeSort (le := lexLe) (fun a b c h1 h2 => by unfold lexLe at *; simp at *; omega) (fun a b => by unfold lexLe; simp; omega) b
  have p2 : a.Perm (b.mergeSort lexLe) := p.trans (List.mergeSort_perm b _).symm
  exact p2.eq_of_pairwise (fun x y _ _ h1 h2 => by
    obtain ⟨x1, x2⟩ := x
    obtain ⟨y1, y2⟩ := y
    unfold lexLe at h1 h2
    simp at h1 h2
    have e1 : x1 = y1 := by omega
    have e2 : x2 = y2 := by omega
    rw [e1, e2]) h1 h2
section
variable {X : Cx} {a b e o : Expr} {es : List Expr} {pos p p1 p2 p3 : Pos} {k : Nat} {x y : Str}
theorem qo_dt0 : QO X (.Dict [] [] pos) oDT0 := by
  refine PE.imp pe_dnewT fun σ H Q h => ?_
  obtain ⟨R, G, ρ, c, ρ', rp, e, k⟩ := h
  cases e
  intro p hp
  exact k G _ p (.refl _) (rp.pushNew hp (ho := .dT []) .nil)
theorem qs_tk (i : Nat) {x1} {m : M (List D)} {pos' : Pos} (hN : X.N.Nodup) (h : QA X es m) (hi : X.N[i]? = some x := by rfl) (hx : Loc X.env.scope x := by first | exact Or.inl rfl | exact Or.inr rfl) (hs : swapsWith (.Tuple es x1 p2) (some (.Name x pos')) pos.line X.env = pure false := by rfl) (hf : X.fn x = true ∨ X.env.scope.names.lookup x = some .local := by first | exact .inl rfl | exact .inr rfl | assumption) :
    QS X [i] (.Assign [.Name x pos'] (.Tuple es x1 p2) pos) (sTk i m) := by
  refine PS.imp (ps_set hN hi hx (pe_tup h) hs hf) fun E σ H h => ?_
  obtain ⟨R, G, ρ, f, ρ', rp, e, k⟩ := h
  unfold sTk at e
  rw [Option.bind_eq_some_iff] at e
  obtain ⟨⟨ds, ρ1⟩, h1, e⟩ := e
  rw [Option.bind_eq_some_iff] at e
  obtain ⟨ns, h2, e⟩ := e
  split at e
  case isFalse => cases e
  rename_i hl
  cases e
  refine ⟨R, G, ρ, ds, ρ1, rp, h1, fun G1 H1 vs s1 r1 d1 => ?_⟩
  have e1 := intsOf_map ds ns h2
  subst e1
  have e2 := dqInts d1
  subst e2
  refine ⟨by rw [List.length_map]; exact size_of hl, fun q hq => ?_⟩
  have g := Gr.new (o := .tup (ns.map V.int)) r1.subG hq
  exact k _ _ _ (s1.trans g.gg) ((r1.grow g).setT (t := .tk ns) ⟨q, rfl, upd_same⟩) (fun j hj => List.getElem?_set_ne fun z => hj (by simp [z]))
theorem tInT_of {i j : Nat} {K : Fr} {σ : St} {H : Hp} {Q : VK} (h : tM K (eInT j i) σ H Q) : tDIn (tVar j) (tVar i) σ H Q := by
  obtain ⟨R, G, ρ, d, ρ', rp, e, k⟩ := h
  unfold eInT at e
  rw [Option.bind_eq_some_iff] at e
  obtain ⟨ns, h1, e⟩ := e
  rw [Option.map_eq_some_iff] at e
  obtain ⟨t, h2, e⟩ := e
  cases e
  obtain ⟨b, hb, gb⟩ := rp.slot j _ (tkAt_some h1)
  obtain ⟨q, us, eq, hq, pr⟩ := rp.ownTAt (ownT_some h2)
  have hbH : H b = some (.tup ((ns.map Sum.inl).map kV)) := by rw [kvInts]; exact rp.subG _ _ gb
  refine ⟨.ref b, hb, .ref q, eq, q, valV us (ns.map Sum.inl), rfl, .t hq hbH, ?_⟩
  rcases val_paired (k := ns) pr with ⟨q1, q2⟩ | ⟨d', v', q1, q2, q3⟩
  · rw [q2]; exact k G H _ (.refl _) rp (by rw [q1]; exact .bl _)
  · rw [q2]; exact k G H _ (.refl _) rp (by rw [q1]; exact .bl _)
theorem qt_inT (j i : Nat) (hr : Room k X.A) (hN : X.N[i]? = some x := by rfl) (hNj : X.N[j]? = some y := by rfl) (hv : Vis X.env.scope x := by first | exact Or.inl rfl | exact Or.inr (Or.inl rfl) | exact Or.inr (Or.inr rfl)) (hvj : Vis X.env.scope y := by first | exact Or.inl rfl | exact Or.inr (Or.inl rfl) | exact Or.inr (Or.inr rfl))
    (hd : (x == ("__debug__" : Str)) = false := by decide) (hcd : (x == ("__classdict__" : Str)) = false := by decide) (hdj : (y == ("__debug__" : Str)) = false := by decide) (hcdj : (y == ("__classdict__" : Str)) = false := by decide)
    (hm : behindInMarks .In (.Name x p) = false := by first | exact nomark _ | rfl | (with_unfolding_all rfl)) : QT X (.Compare (.Name y p1) [.In] [.Name x p] pos) (cV (eInT j i)) :=
  PT.imp (pt_cmp (pc_din (units1 hr) (pe_var hNj hvj hdj hcdj) (pe_var hN hv hd hcd)) hm) fun _ _ _ h => tInT_of (tM_cV h)
theorem qe_getT (i j : Nat) (hr : Room k X.A) (hN : X.N[i]? = some x := by rfl) (hNj : X.N[j]? = some y := by rfl) (hv : Vis X.env.scope x := by first | exact Or.inl rfl | exact Or.inr (Or.inl rfl) | exact Or.inr (Or.inr rfl)) (hvj : Vis X.env.scope y := by first | exact Or.inl rfl | exact Or.inr (Or.inl rfl) | exact Or.inr (Or.inr rfl))
    (hd : (x == ("__debug__" : Str)) = false := by decide) (hcd : (x == ("__classdict__" : Str)) = false := by decide) (hdj : (y == ("__debug__" : Str)) = false := by decide) (hcdj : (y == ("__classdict__" : Str)) = false := by decide)
    (hs : NoSl (.Name y p1) := by exact fun _ _ => rfl) : QE X (.Subscript (.Name x p) (.Name y p1) pos) (eGetT i j) := by
  refine PE.imp (pe_dget (units1 hr) (pe_var hN hv hd hcd) (pe_var hNj hvj hdj hcdj) hs) fun σ H Q h => ?_
  obtain ⟨R, G, ρ, d, ρ', rp, e, k⟩ := h
  unfold eGetT at e
  rw [Option.bind_eq_some_iff] at e
  obtain ⟨ns, h1, e⟩ := e
  rw [Option.bind_eq_some_iff] at e
  obtain ⟨t, h2, e⟩ := e
  rw [Option.map_eq_some_iff] at e
  obtain ⟨d', h3, e⟩ := e
  cases e
  obtain ⟨b, hb, gb⟩ := rp.slot j _ (tkAt_some h1)
  obtain ⟨q, us, eq, hq, pr⟩ := rp.ownTAt (ownT_some h2)
  have hbH : H b = some (.tup ((ns.map Sum.inl).map kV)) := by rw [kvInts]; exact rp.subG _ _ gb
  rcases val_paired (k := ns) pr with ⟨q1, q2⟩ | ⟨d'', v', q1, q2, q3⟩
  · rw [q1] at h3; cases h3
  · rw [q1] at h3
    cases h3
    have g := DGet.t (k := ns.map Sum.inl) hq hbH
    rw [q2] at g
    exact ⟨.ref q, eq, .ref b, hb, q, v', rfl, g, k G H _ (.refl _) rp q3⟩
theorem qs_putT (i j : Nat) {m : M D} (hr : Room k X.A) (hb : QE X b m) (hN : X.N[i]? = some x := by rfl) (hNj : X.N[j]? = some y := by rfl) (hv : Vis X.env.scope x := by first | exact Or.inl rfl | exact Or.inr (Or.inl rfl) | exact Or.inr (Or.inr rfl)) (hvj : Vis X.env.scope y := by first | exact Or.inl rfl | exact Or.inr (Or.inl rfl) | exact Or.inr (Or.inr rfl))
    (hd : (x == ("__debug__" : Str)) = false := by decide) (hcd : (x == ("__classdict__" : Str)) = false := by decide) (hdj : (y == ("__debug__" : Str)) = false := by decide) (hcdj : (y == ("__classdict__" : Str)) = false := by decide)
    (hs : swapsWith b (some (.Subscript (.Name x p) (.Name y p1) p2)) pos.line X.env = pure false := by rfl) : QS X [] (.Assign [.Subscript (.Name x p) (.Name y p1) p2] b pos) (sPutT i j m) := by
  refine PS.imp (ps_dput (units1 hr) (pe_var hN hv hd hcd) (pe_var hNj hvj hdj hcdj) hb hs) fun E σ H h => ?_
  obtain ⟨R, G, ρ, f, ρ', rp, e, k⟩ := h
  unfold sPutT at e
  rw [Option.bind_eq_some_iff] at e
  obtain ⟨⟨z, ρ1⟩, h1, e⟩ := e
  rw [Option.bind_eq_some_iff] at e
  obtain ⟨ns, h2, e⟩ := e
  rw [Option.bind_eq_some_iff] at e
  obtain ⟨t, h3, e⟩ := e
  split at e
  case isFalse => cases e
  rename_i hl
  cases e
  refine ⟨R, G, ρ, z, ρ1, rp, h1, fun G1 H1 v1 s1 r1 d1 => ?_⟩
  obtain ⟨c, hc, gc⟩ := r1.slot j _ (tkAt_some h2)
  obtain ⟨q, us, eq, hq, pr⟩ := r1.ownTAt (ownT_some h3)
  have hcH : H1 c = some (.tup ((ns.map Sum.inl).map kV)) := by rw [kvInts]; exact r1.subG _ _ gc
  refine ⟨.ref q, eq, .ref c, hc, q, _, rfl, .t hq hcH ?_, k G1 _ σ s1 (r1.write (ownT_some h3) eq (c' := .dt (putT t ns z)) (ho := .dT (putK us (ns.map Sum.inl) v1)) (putT_paired d1 pr)) (.refl _ _)⟩
  have := Paired.length pr
  rw [← this, sizeLine_eq]
  omega
theorem qs_putTD (i : Nat) {x1} {m : M D} {n : M (List D)} (hr : Room k X.A) (ha : QA X es n) (hb : QE X b m) (hN : X.N[i]? = some x := by rfl) (hv : Vis X.env.scope x := by first | exact Or.inl rfl | exact Or.inr (Or.inl rfl) | exact Or.inr (Or.inr rfl))
    (hd : (x == ("__debug__" : Str)) = false := by decide) (hcd : (x == ("__classdict__" : Str)) = false := by decide)
    (hs : swapsWith b (some (.Subscript (.Name x p) (.Tuple es x1 p1) p2)) pos.line X.env = pure false := by rfl) : QS X [] (.Assign [.Subscript (.Name x p) (.Tuple es x1 p1) p2] b pos) (sPutTD i n m) := by
  refine PS.imp (ps_dput (units1 hr) (pe_var hN hv hd hcd) (pe_tup ha) hb hs) fun E σ H h => ?_
  obtain ⟨R, G, ρ, f, ρ', rp, e, k⟩ := h
  unfold sPutTD at e
  rw [Option.bind_eq_some_iff] at e
  obtain ⟨⟨z, ρ1⟩, h1, e⟩ := e
  rw [Option.bind_eq_some_iff] at e
  obtain ⟨t0, h0, e⟩ := e
  rw [Option.bind_eq_some_iff] at e
  obtain ⟨⟨ds, ρ2⟩, h2, e⟩ := e
  rw [Option.bind_eq_some_iff] at e
  obtain ⟨ns, hn, e⟩ := e
  rw [Option.bind_eq_some_iff] at e
  obtain ⟨t, h3, e⟩ := e
  split at e
  case isFalse => cases e
  rename_i hl
  cases e
  refine ⟨R, G, ρ, z, ρ1, rp, h1, fun G1 H1 v1 s1 r1 d1 => ?_⟩
  obtain ⟨q0, us0, eq0, hq0, _⟩ := r1.ownTAt (ownT_some h0)
  refine ⟨.ref q0, eq0, R, G1, ρ1, ds, ρ2, r1, h2, fun G2 H2 vs s2 r2 d2 => ?_⟩
  have e1 := intsOf_map ds ns hn
  subst e1
  have e2 := dqInts d2
  subst e2
  refine ⟨by rw [List.length_map]; exact size_of hl.2, fun c hc => ?_⟩
  have g := Gr.new (o := .tup (ns.map V.int)) r2.subG hc
  have r3 := r2.grow g
  obtain ⟨q, us, eq, hq, pr⟩ := r3.ownTAt (ownT_some h3)
  rw [eq0] at eq
  cases eq
  have hcH : upd H2 c (.tup (ns.map V.int)) c = some (.tup ((ns.map Sum.inl).map kV)) := by rw [kvInts]; exact upd_same
  refine ⟨q0, _, rfl, .t hq hcH ?_, k _ _ σ ((s1.trans s2).trans g.gg) (r3.write (ownT_some h3) eq0 (c' := .dt (putT t ns z)) (ho := .dT (putK us (ns.map Sum.inl) v1)) (putT_paired (Dq_mono (s2.trans g.gg) d1) pr)) (.refl _ _)⟩
  have := Paired.length pr
  rw [← this, sizeLine_eq]
  omega
/-- d[key], the key a tuple of data -/
theorem pe_dgetT {i : Expr} {td ty : TE} (hu : X.A.units + 1 < cLine) (ho : PE X o td) (hi : PE X i ty) (hs : NoSl i) : PE X (.Subscript o i pos) (fun σ H Q => td σ H fun x H1 => ty σ H1 fun y H2 => ∃ a c kvs ks v, x = .ref a ∧ y = .ref c ∧ H2 a = some (.dT kvs) ∧ SqT X.K H2 c ((ks : List Key).map kV) ∧ valV kvs ks = some v ∧ Q v H2) := by
  refine ⟨fun pins s σ H Q I want => ?_⟩
  refine subD_of PySem.F.slot_dict_getitem.lookup hs (thn (ho.run pins s σ H _ I want) fun u s1 h1 => ?_)
  obtain ⟨x1, H1, I1, rx, want⟩ := h1
  refine thn (hi.run pins s1 σ H1 _ I1 want) fun iv s2 h2 => ?_
  obtain ⟨y1, H2, I2, ry, a1, c1, kvs, ks, v, rfl, rfl, hd, hk, hv, want⟩ := h2
  cases rx
  cases ry
  obtain ⟨z, hne, xs, rel, dd⟩ := dt_of I2.hok hd
  have found := rel.val ks
  rw [hv] at found
  obtain ⟨w', hw, rw'⟩ := RelO.some_of (v := v) found
  obtain ⟨pr, hp, hp2⟩ := Option.map_eq_some_iff.mp hw
  obtain ⟨its, rv, ⟨ob, h1, h2, n, h3⟩, _⟩ := I2.tuple hk
  have isK : (tupleKind (mixKind X.prog X.w)).is s2.heap ks c1 := ⟨ob, its.toArray, n, h1, h2, h3, by simpa using items_are rv⟩
  refine ⟨dd.typeIs, wpAny_getItem_heap (tupleKind_room_in1 hu) isK dd hp ?_⟩
  rw [hp2]
  exact ⟨v, H2, I2.tok _, rw', want⟩
theorem qe_getTD (i : Nat) {m : M D} (hr : Room k X.A) (ha : QE X a m) (hN : X.N[i]? = some x := by rfl) (hv : Vis X.env.scope x := by first | exact Or.inl rfl | exact Or.inr (Or.inl rfl) | exact Or.inr (Or.inr rfl)) (hd : (x == ("__debug__" : Str)) = false := by decide) (hcd : (x == ("__classdict__" : Str)) = false := by decide)
    (hs : NoSl a := by exact fun _ _ => rfl) : QE X (.Subscript (.Name x p) a pos) (eGetTD i m) := by
  refine PE.imp (pe_dgetT (units1 hr) (pe_var hN hv hd hcd) ha hs) fun σ H Q h => ?_
  obtain ⟨R, G, ρ, d, ρ', rp, e, k⟩ := h
  unfold eGetTD at e
  rw [Option.bind_eq_some_iff] at e
  obtain ⟨t0, h0, e⟩ := e
  rw [Option.bind_eq_some_iff] at e
  obtain ⟨⟨z, ρ1⟩, h1, e⟩ := e
  split at e
  case h_2 => cases e
  rename_i ds hz
  simp only at hz
  subst hz
  rw [Option.bind_eq_some_iff] at e
  obtain ⟨ns, hn, e⟩ := e
  rw [Option.bind_eq_some_iff] at e
  obtain ⟨t, h2, e⟩ := e
  rw [Option.map_eq_some_iff] at e
  obtain ⟨d', h3, e⟩ := e
  cases e
  obtain ⟨q0, us0, eq0, hq0, _⟩ := rp.ownTAt (ownT_some h0)
  refine ⟨.ref q0, eq0, R, G, ρ, _, _, rp, h1, fun G1 H1 v1 s1 r1 d1 => ?_⟩
  obtain ⟨q, us, eq, hq, pr⟩ := r1.ownTAt (ownT_some h2)
  rw [eq0] at eq
  cases eq
  have e1 := intsOf_map ds ns hn
  subst e1
  cases d1 with
  | tup hb db =>
    have e2 := dqInts db
    subst e2
    rcases val_paired (k := ns) pr with ⟨q1, q2⟩ | ⟨d'', v', q1, q2, q3⟩
    · rw [q1] at h3; cases h3
    · rw [q1] at h3
      cases h3
      exact ⟨_, _, us, ns.map Sum.inl, v', rfl, rfl, hq, by rw [kvInts]; exact SqT_mono r1.subG hb, q2, k G1 H1 _ s1 r1 q3⟩
/-- sorted(list(d)) -/
def prOfV (H : Hp) : V → Int × Int
  | .ref t => match H t with
    | some (.tup [.int i, .int j]) => (i, j)
    | _ => (0, 0)
  | _ => (0, 0)
theorem len2 : ∀ {l : List Int}, l.length = 2 → ∃ a b, l = [a, b]
  | [a, b], _ => ⟨a, b, rfl⟩
theorem keys_pr {K : Fr} {G H : Hp} : ∀ {t : List (List Int × D)} {us : List (List Key × V)} {bs : List Addr}, Paired (KtR K G) t us → IsKeys H us bs → t.all (fun p => decide (p.1.length = 2)) = true → (∀ b ∈ bs, H b = some (.tup [.int (prOfV H (.ref b)).1, .int (prOfV H (.ref b)).2])) ∧ bs.map (fun b => prOfV H (.ref b)) = t.map fun p => prOf p.1
  | [], _, _, .nil, .nil, _ => ⟨fun b hb => absurd hb (by simp), rfl⟩
  | p :: ps, _, _, .cons hq tq, .cons hb tb, hal => by
    rw [List.all_cons, Bool.and_eq_true] at hal
    obtain ⟨ih1, ih2⟩ := keys_pr tq tb hal.2
    obtain ⟨a, c, e⟩ := len2 (of_decide_eq_true hal.1)
    rename_i q qs b bs
    have hb' : H b = some (.tup [.int a, .int c]) := by
      rw [hb, hq.1, e]
      rfl
    have pv : prOfV H (.ref b) = (a, c) := by
      show (match H b with
        | some (.tup [.int i, .int j]) => (i, j)
        | _ => (0, 0)) = (a, c)
      rw [hb']
    refine ⟨fun b' hm => ?_, ?_⟩
    · rcases List.mem_cons.mp hm with rfl | hm
      · rw [pv]; exact hb'
      · exact ih1 b' hm
    · rw [List.map_cons, List.map_cons, ih2, pv, e]
      rfl
theorem srt_data {K : Fr} {G H : Hp} : ∀ {ys : List V}, (∀ x ∈ ys, ∃ t, x = V.ref t ∧ G t = some (.tup [.int (prOfV H x).1, .int (prOfV H x).2])) → DqAll K G ys (ys.map fun x => prD (prOfV H x))
  | [], _ => .nil
  | y :: ys, h => by
    obtain ⟨t, e, ht⟩ := h y List.mem_cons_self
    refine .cons ?_ (srt_data fun x hx => h x (List.mem_cons_of_mem _ hx))
    have hd : Dq K G (.ref t) (prD (prOfV H y)) := .tup (SqT.of ht) (.cons (.int _) (.cons (.int _) .nil))
    rw [← e] at hd
    exact hd
theorem qe_sortT (i : Nat) (hl : X.mg "list" = none) (hso : X.mg "sorted" = none) (hN : X.N[i]? = some x := by rfl) (hv : Vis X.env.scope x := by first | exact Or.inl rfl | exact Or.inr (Or.inl rfl) | exact Or.inr (Or.inr rfl)) (hd : (x == ("__debug__" : Str)) = false := by decide) (hcd : (x == ("__classdict__" : Str)) = false := by decide) (hc : X.calm = true := by rfl)
    (hg : Gl X "list" := by rfl) (hg2 : Gl X "sorted" := by rfl) (hs : starEach [.Name x p] X.env = (false, eval (.Name x p) X.env) :: starEach [] X.env := by rfl) (hpl : (backTo pos (starEach [] X.env)).any (·.1) = false := by rfl)
    (hs2 : starEach [.Call (.Name "list" p2) [.Name x p] [] pos] X.env = (false, eval (.Call (.Name "list" p2) [.Name x p] [] pos) X.env) :: starEach [] X.env := by rfl) (hpl2 : (backTo p3 (starEach [] X.env)).any (·.1) = false := by rfl) :
    QE X (.Call (.Name "sorted" p1) [.Call (.Name "list" p2) [.Name x p] [] pos] [] p3) (eSortT i) := by
  refine PE.imp (pe_callB cr_sortedPO hg2 hso (by decide +kernel) (pa_cons (pe_callTy (call_list_dT hc) hg hl (by decide +kernel) (pa_cons (pe_var hN hv hd hcd) pa_nil hs) (by decide) (by decide) hs hpl) pa_nil hs2) (by decide) (by decide) hs2 hpl2) fun σ H Q h => ?_
  obtain ⟨R, G, ρ, d, ρ', rp, e, k⟩ := h
  unfold eSortT at e
  rw [Option.bind_eq_some_iff] at e
  obtain ⟨t, h1, e⟩ := e
  split at e
  case isFalse => cases e
  rename_i hal
  cases e
  obtain ⟨q, us, eq, hq, dv⟩ := rp.ownTAt (ownT_some h1)
  refine ⟨.ref q, eq, q, us, rfl, .inl hq, fun c bs hc' keys => ?_⟩
  obtain ⟨k1, k2⟩ := keys_pr dv keys hal
  have g1 := Gr.junk (o := .lst (bs.map V.ref)) rp.subG hc'
  have ne : ∀ b ∈ bs, b ≠ c := fun b hb z => by have := k1 b hb; rw [z, hc'] at this; cases this
  refine ⟨c, bs.map V.ref, prOfV H, rfl, SqL.of upd_same, fun y hy => ?_, fun ys c2 srt stb hc2 => ?_⟩
  · obtain ⟨b, hb, rfl⟩ := List.mem_map.mp hy
    exact ⟨b, rfl, by rw [upd_ne (ne b hb)]; exact k1 b hb⟩
  · have perm := stb.perm
    -- the keys' tuples are data from now on
    let G' : Hp := fun a => if a = c2 then some (.lst ys) else if a ∈ bs ∧ G a = none then H a else G a
    have nbs : ∀ b ∈ bs, b ≠ c2 := fun b hb z => by
      have w := k1 b hb
      have w2 : upd H c (.lst (bs.map V.ref)) b = some (.tup [.int (prOfV H (.ref b)).1, .int (prOfV H (.ref b)).2]) := by rw [upd_ne (ne b hb)]; exact w
      rw [z, hc2] at w2; cases w2
    have gc2 : ∀ a o, G a = some o → a ≠ c2 := fun a o q z => by
      have w : upd H c (.lst (bs.map V.ref)) a = some o := g1.gh a o q
      rw [z, hc2] at w; cases w
    have hh : Same H (upd (upd H c (.lst (bs.map V.ref))) c2 (.lst ys)) := fun a o q => by
      have w : upd H c (.lst (bs.map V.ref)) a = some o := g1.hh a o q
      rw [upd_ne (ne_of_none w hc2)]
      exact w
    have at_ : ∀ a, a ≠ c2 → G' a = if a ∈ bs ∧ G a = none then H a else G a := fun a z => if_neg z
    have gg : Same G G' := fun a o q => by
      rw [at_ a (gc2 a o q), if_neg (fun z => by rw [q] at z; cases z.2)]
      exact q
    have gr : Gr G H G' (upd (upd H c (.lst (bs.map V.ref))) c2 (.lst ys)) := by
      refine ⟨hh, gg, fun a o q => ?_, fun a o q1 q2 => ?_⟩
      · by_cases z : a = c2
        · subst z
          have q : (if a = a then some (HO.lst ys) else _) = some o := q
          rw [if_pos rfl] at q
          rw [upd_same]
          exact q
        · rw [at_ a z] at q
          split at q
          · exact hh a o q
          · exact hh a o (rp.subG a o q)
      · by_cases z : a = c2
        · subst z
          refine .inl ?_
          cases w : H a with
          | none => rfl
          | some u => have w2 := g1.hh a u w; rw [hc2] at w2; cases w2
        · rw [at_ a z] at q2
          split at q2
          · rename_i w
            rw [k1 a w.1] at q2
            cases q2
            exact .inr ⟨_, rfl⟩
          · rw [q1] at q2; cases q2
    have dat : ∀ y ∈ ys, ∃ t, y = V.ref t ∧ G' t = some (.tup [.int (prOfV H y).1, .int (prOfV H y).2]) := fun y hy => by
      obtain ⟨b, hb, rfl⟩ := List.mem_map.mp (perm.mem_iff.mp hy)
      refine ⟨b, rfl, ?_⟩
      rw [at_ b (nbs b hb)]
      by_cases z : G b = none
      · rw [if_pos ⟨hb, z⟩]; exact k1 b hb
      · rw [if_neg fun w => z w.2]
        cases w : G b with
        | none => exact absurd w z
        | some o =>
          have w2 := rp.subG b o w
          rw [k1 b hb] at w2
          exact w2.symm
    have srt2 : (ys.map (prOfV H)).Pairwise fun x y => lexLe x y = true := by
      rw [List.pairwise_map]
      refine srt.imp fun {a b} w => ?_
      have w0 : SrtO.lexB (prOfV H b) (prOfV H a) = false := w
      have w' : ¬ SrtO.lexB (prOfV H b) (prOfV H a) = true := by rw [w0]; exact Bool.false_ne_true
      rw [SrtO.lexB_iff] at w'
      unfold lexLe
      rw [decide_eq_true_iff]
      omega
    have pk : (ys.map (prOfV H)).Perm (t.map fun p => prOf p.1) := by
      rw [← k2]
      have := perm.map (prOfV H)
      rw [List.map_map] at this
      exact this
    have eq2 : (ys.map fun x => prD (prOfV H x)) = ((t.map fun p => prOf p.1).mergeSort lexLe).map prD := by
      rw [← lex_one pk srt2, List.map_map]
      rfl
    have dd := srt_data (K := X.K) (H := H) dat
    rw [eq2] at dd
    exact k G' _ _ gg (rp.grow gr) (.lst (if_pos rfl) dd)
end
/-! ### a tuple in a tuple of tuples -/
def rInT (K : Fr) : R2 := fun x y H Q => ∃ d ds, Dp K H x d ∧ Dp K H y (.tuple ds) ∧ SeqAt.shaped d = true ∧ SeqAt.shaped (.tuple ds) = true ∧ Q (.bl (ds.any fun z => PyData.eqv z d)) H
theorem units65 {k : Nat} {A : Around} (hr : Room k A) : A.units + 65 < cLine := by
  have := hr.un
  omega
theorem op_inT {X : Cx} (hu : X.A.units + 65 < cLine) : OpR X (compareOp .In) (rInT X.K) := by
  intro pins s σ H x y v u Q I rx ry want
  obtain ⟨d, ds, hd, he, sd, se, want⟩ := want
  obtain ⟨as, reads1⟩ := Dp.reads I d x v hd rx
  obtain ⟨bs, reads2⟩ := Dp.reads I (.tuple ds) y u he ry
  exact SeqAt.in_tuple_reads reads2 reads1 (SeqAt.canLay_of_shaped se) (SeqAt.canLay_of_shaped sd) (room_in_shaped sd hu) ⟨.bl _, H, I, rfl, want⟩
def dInT : D → D → Option D := fun x y => match y with
  | .tuple ds => if SeqAt.shaped x = true ∧ SeqAt.shaped (.tuple ds) = true then some (.bool (ds.any fun z => PyData.eqv z x)) else none
  | _ => none
theorem d_inT {K : Fr} : OpD K (rInT K) dInT := by
  intro G H x y dx dy d Q s hx hy e k
  unfold dInT at e
  split at e
  · split at e
    · rename_i h
      cases e
      exact ⟨dx, _, Dq.dp s hx (shaped_lay h.1), Dq.dp s hy (shaped_lay h.2), h.1, h.2, k G H _ (Gr.refl s) (.bl _)⟩
    · cases e
  · cases e
end QL
set_option Elab.async false
set_option linter.all false
set_option maxRecDepth 100000
set_option maxHeartbeats 1000000
/-! ### [f, g, ..][i](args), defs that may raise -/
namespace QL
open PySem PySem.Spec PyProof.Rows L2
def tFs (fs : List Addr) : TA := fun _ H Q => Q (fs.map V.ref) H
inductive FnAll (X : Cx) (cm : Str → Value) (n : Nat) : List Addr → List (List D → Option (Ex D)) → Prop
  | nil : FnAll X cm n [] []
  | cons {f : Addr} {fs : List Addr} {F : List D → Option (Ex D)} {Fs : List (List D → Option (Ex D))} {fd : FuncData} {ps : List Str} {k : Nat} : FnOk X.prog X.w X.K X.mg X.base (L2.CX X.prog X.w) k f fd ps (spX X.K cm F n) → Room k X.A → PySem.W.keepIn X.K (.ref f) = true → Binds X.K fd ps [] → (∀ ds d, F ds = some d → ds.length = n) → FnAll X cm n fs Fs → FnAll X cm n (f :: fs) (F :: Fs)
theorem FnAll.length {X : Cx} {cm : Str → Value} {n : Nat} : ∀ {fs : List Addr} {Fs : List (List D → Option (Ex D))}, FnAll X cm n fs Fs → fs.length = Fs.length
  | _, _, .nil => rfl
  | _, _, .cons _ _ _ _ _ t => by simp [t.length]
theorem FnAll.get {X : Cx} {cm : Str → Value} {n : Nat} : ∀ {fs : List Addr} {Fs : List (List D → Option (Ex D))} {j : Nat} {F : List D → Option (Ex D)}, FnAll X cm n fs Fs → Fs[j]? = some F → ∃ f fd ps k, fs[j]? = some f ∧ FnOk X.prog X.w X.K X.mg X.base (L2.CX X.prog X.w) k f fd ps (spX X.K cm F n) ∧ Room k X.A ∧ PySem.W.keepIn X.K (.ref f) = true ∧ Binds X.K fd ps [] ∧ (∀ ds d, F ds = some d → ds.length = n)
  | _, _, _, _, .nil, e => by simp at e
  | _, _, 0, _, .cons a b c d e _, h => by simp at h; subst h; exact ⟨_, _, _, _, rfl, a, b, c, d, e⟩
  | _, _, j + 1, F, .cons _ _ _ _ _ t, h => by
    obtain ⟨f, fd, ps, k, h1, h2⟩ := FnAll.get (j := j) t (by simpa using h)
    exact ⟨f, fd, ps, k, by simpa using h1, h2⟩
def xCallL (Fs : List (List D → Option (Ex D))) (ix : M D) (as : M (List D)) : MX := fun ρ => (ix ρ).bind fun p => match p.1 with
  | .int j => (ixN Fs.length j).bind fun i => (Fs[i]?).bind fun F => (as p.2).bind fun q => (F q.1).map fun r => (r, q.2)
  | _ => none
section
variable {X : Cx} {cm : Str → Value} {Wx : WX} {pos lpos spos p : Pos}
theorem pa_fs_nil : PA X [] (tFs []) := PA.imp pa_nil fun σ H Q h => h
theorem pa_fs_cons {x : Str} {f : Addr} {fs : List Addr} {es : List Expr} (hm : X.mg x = some (.ref f)) (h : PA X es (tFs fs)) (hg : Gl X x := by rfl) (hd : (x == ("__debug__" : Str)) = false := by decide) (hs : starEach (.Name x p :: es) X.env = (false, eval (.Name x p) X.env) :: starEach es X.env := by rfl) : PA X (.Name x p :: es) (tFs (f :: fs)) :=
  PA.imp (pa_cons (pe_glob (v := .ref f) hg hm rfl hd) h hs) fun σ H Q h => h
theorem xe_callL {n : Nat} {fs : List Addr} {Fs : List (List D → Option (Ex D))} {les : List Expr} {ix e : Expr} {es : List Expr} {mi : M D} {m : M (List D)} (tk : Takes X Wx) (hF : FnAll X cm n fs Fs) (hes : PA X les (tFs fs)) (hix : QE X ix mi) (ha : QA X (e :: es) m)
    (hl : Fs.length ≤ 1000 := by decide) (hs : PlainIx ix := by exact fun _ _ => rfl)
    (ht : eval (.Call (.Subscript (.List les lpos) ix spos) (e :: es) [] pos) X.env = (do callWith pos (← eval (.Subscript (.List les lpos) ix spos) X.env) [] (backTo pos (starEach (e :: es) X.env)) (backToKw pos (keywordEach [] X.env))) := by rfl)
    (he : starEach (e :: es) X.env = (false, eval e X.env) :: starEach es X.env := by rfl) (hpl : (backTo pos (starEach es X.env)).any (·.1) = false := by rfl) :
    PE X (.Call (.Subscript (.List les lpos) ix spos) (e :: es) [] pos) (tZE X.K cm Wx (xCallL Fs mi m)) := by
  refine ⟨fun pins s σ H Q I want => ?_⟩
  obtain ⟨R, G, ρ, r, ρ', rp, e0, kk⟩ := want
  unfold xCallL at e0
  rw [Option.bind_eq_some_iff] at e0
  obtain ⟨⟨y, ρ1⟩, h1, e0⟩ := e0
  cases y <;> try (cases e0; done)
  rename_i j
  simp only at e0
  rw [Option.bind_eq_some_iff] at e0
  obtain ⟨i, hi, e0⟩ := e0
  rw [Option.bind_eq_some_iff] at e0
  obtain ⟨F, hFi, e0⟩ := e0
  rw [Option.bind_eq_some_iff] at e0
  obtain ⟨⟨ds, ρ2⟩, h2, e0⟩ := e0
  rw [Option.map_eq_some_iff] at e0
  obtain ⟨r', h3, e0⟩ := e0
  cases e0
  obtain ⟨f, fd, ps, k, hf, FO, hr, hk, hb, hlen⟩ := hF.get hFi
  have ev : atI (fs.map V.ref) j = some (.ref f) := by
    unfold atI
    rw [List.length_map, hF.length, hi, Option.bind_some, List.getElem?_map, hf]
    rfl
  refine Call_ (thn ((pe_ix ix_list (pe_lst (pos := lpos) hes) hix hs).run pins s σ H (fun v H1 => v = .ref f ∧ ∃ G1, Same G G1 ∧ Rep X.K R G1 H1 ρ1 σ) I ?_) fun u s1 h => ?_) ht
  · refine ⟨by rw [List.length_map, hF.length]; exact Nat.le_trans hl (by decide), fun q hq => ?_⟩
    have g := Gr.junk (o := .lst (fs.map V.ref)) rp.subG hq
    have qR : Rep X.K (upd R q (.lst (fs.map V.ref))) G (upd H q (.lst (fs.map V.ref))) ρ σ := rp.keep hq
    refine ⟨upd R q (.lst (fs.map V.ref)), G, ρ, .int j, ρ1, qR, h1, fun G1 H1 v1 s1 r1 d1 => ?_⟩
    cases d1
    refine ⟨q, fs.map V.ref, j, .ref f, rfl, rfl, SqL.of (r1.subR _ _ upd_same), ev, rfl, G1, s1, ?_⟩
    -- the list is forgotten
    have nR : R q = none := rp.subR.free hq
    exact r1.drop nR
  · obtain ⟨v, H1, I1, rv, rfl, G1, s1', r1⟩ := h
    cases rv
    refine PySem.W.callWith_K (h₀ := X.base) I1.ok.mod.kin hk (thn (ha.run pos pins s1 σ H1 (fun vs H2 => ∃ G2, Same G1 G2 ∧ Rep X.K R G2 H2 ρ2 σ ∧ DqAll X.K G2 vs ds) I1 ⟨R, G1, ρ1, ds, ρ2, r1, h2, fun G2 H2 vs s2 r2 d2 => ⟨G2, s2, r2, d2⟩⟩) fun us s2 h => ?_) he hpl
    obtain ⟨vs, H2, I2, rel, G2, s2', r2, d2⟩ := h
    refine ⟨I2.kIn, run_fnS (E := WE Wx) FO hr hb (passAt tk σ) I2 rel ⟨?_, G2, ds, r, r2.subG, d2, h3, ?_⟩⟩
    · rw [d2.length]; exact hlen _ _ h3
    · cases r with
      | ok d => exact fun G3 H3 v g3 dv => kk G3 H3 v ((s1'.trans s2').trans g3.gg) (r2.grow g3) dv
      | er z => exact fun G3 H3 g3 => kk G3 H3 ((s1'.trans s2').trans g3.gg) (r2.grow g3)
end
end QL
set_option Elab.async false
set_option linter.all false
set_option maxRecDepth 100000
set_option maxHeartbeats 1000000
/-! ### C(args) where __init__ raises -/
namespace QL
open PySem PySem.Spec PyProof.Rows L2
theorem qss_nox {X : Cx} {W : List Nat} {st : List Stmt} {m : MS} (h : QSs X.nox W st m) : QSs X W st m := PSs.nox h
theorem qe_call0 {X : Cx} {p pos : Pos} {x : Str} {k : Nat} {f : Addr} {fd : FuncData} {ps : List Str} {F : List D → Option D} (FO : FnOk X.prog X.w X.K X.mg X.base CX0 k f fd ps (spP X.K F 0)) (hr : Room k X.A) (hm : X.mg x = some (.ref f)) (hk : PySem.W.keepIn X.K (.ref f) = true) (hb : Binds X.K fd ps [])
    (hg : Gl X x := by rfl) (hdb : (x == ("__debug__" : Str)) = false := by decide) : QE X (.Call (.Name x p) [] [] pos) (eApp F aNil) := by
  refine PE.imp (pe_call0 (E := fun _ _ _ => False) FO hr hg hm hk hb .nil pass0 hdb) fun σ H Q h => ?_
  obtain ⟨R, G, ρ, d, ρ', rp, e, k⟩ := h
  obtain ⟨x, h1, h2⟩ := bindA e
  cases h1
  exact ⟨rfl, G, [], d, rp.subG, .nil, h2, fun G3 H3 v3 g3 d3 => k G3 H3 v3 g3.gg (rp.grow g3) d3⟩
def insI (x : Int) : List Int → List Int
  | [] => [x]
  | y :: ys => if x ≤ y then x :: y :: ys else y :: insI x ys
def isortI : List Int → List Int
  | [] => []
  | x :: xs => insI x (isortI xs)
theorem insI_perm (x : Int) : ∀ l, (insI x l).Perm (x :: l)
  | [] => .refl _
  | y :: ys => by
    unfold insI
    split
    · exact .refl _
    · exact ((insI_perm x ys).cons y).trans (List.Perm.swap x y ys)
theorem isortI_perm : ∀ l, (isortI l).Perm l
  | [] => .refl _
  | x :: xs => (insI_perm x _).trans ((isortI_perm xs).cons x)
theorem insI_sorted (x : Int) : ∀ l, l.Pairwise (· ≤ ·) → (insI x l).Pairwise (· ≤ ·)
  | [], _ => by simp [insI]
  | y :: ys, h => by
    rw [List.pairwise_cons] at h
    unfold insI
    split
    · rename_i hx
      refine List.pairwise_cons.mpr ⟨fun z hz => ?_, List.pairwise_cons.mpr h⟩
      rcases List.mem_cons.mp hz with rfl | hz
      · exact hx
      · have := h.1 z hz; omega
    · rename_i hx
      refine List.pairwise_cons.mpr ⟨fun z hz => ?_, insI_sorted x ys h.2⟩
      rcases List.mem_cons.mp ((insI_perm x ys).mem_iff.mp hz) with rfl | hz
      · omega
      · exact h.1 z hz
theorem isortI_sorted : ∀ l, (isortI l).Pairwise (· ≤ ·)
  | [] => .nil
  | x :: xs => insI_sorted x _ (isortI_sorted xs)
theorem sorted_oneK {a b : List Int} (p : a.Perm b) (h1 : a.Pairwise (· ≤ ·)) : a = isortI b := (p.trans (isortI_perm b).symm).eq_of_pairwise (fun x y _ _ h1 h2 => by omega) h1 (isortI_sorted b)
def dSortedK : List D → Option D
  | [.list a] => (intsOf a).map fun ns => .list ((isortI ns).map .int)
  | _ => none
def dSortedTK : List D → Option D
  | [.tuple a] => (intsOf a).map fun ns => .list ((isortI ns).map .int)
  | _ => none
theorem d_sortedK {K : Fr} : CallD K (rSortedI K) dSortedK := by
  intro G H vs ds d Q s h e k
  unfold dSortedK at e
  split at e
  · rw [Option.map_eq_some_iff] at e
    obtain ⟨bs, hb, e⟩ := e
    cases e
    obtain ⟨v, rfl, hd⟩ := one_of h
    cases hd with
    | lst h1 a1 =>
      rw [ints_of a1 hb] at h1
      refine ⟨_, bs, rfl, SqL.of (s _ _ h1), fun ns' p hp hs hn => k _ _ _ (Gr.new s hn) ?_⟩
      rw [← sorted_oneK hp hs]
      refine .lst upd_same ?_
      have : ∀ (G : Hp) (l : List Int), DqAll K G (l.map V.int) (l.map PyData.int) := fun G l => by
        induction l with
        | nil => exact .nil
        | cons a r ih => exact .cons (.int _) ih
      exact this _ _
  · cases e
theorem d_sortedTK {K : Fr} : CallD K (rSortedIT K) dSortedTK := by
  intro G H vs ds d Q s h e k
  unfold dSortedTK at e
  split at e
  · rw [Option.map_eq_some_iff] at e
    obtain ⟨bs, hb, e⟩ := e
    cases e
    obtain ⟨v, rfl, hd⟩ := one_of h
    cases hd with
    | tup h1 a1 =>
      rw [ints_of a1 hb] at h1
      refine ⟨_, bs, rfl, SqT_mono s h1, fun ns' p hp hs hn => k _ _ _ (Gr.new s hn) ?_⟩
      rw [← sorted_oneK hp hs]
      refine .lst upd_same ?_
      have : ∀ (G : Hp) (l : List Int), DqAll K G (l.map V.int) (l.map PyData.int) := fun G l => by
        induction l with
        | nil => exact .nil
        | cons a r ih => exact .cons (.int _) ih
      exact this _ _
  · cases e
def runI (n N : Nat) (body : MXS) : List D → Option (Ex D) := fun ds => if ds.length + 1 = n then (body (Sl.un :: (ds.map Sl.dat ++ List.replicate (N - n) Sl.un))).bind endX else none
/-- a promise only for the arguments where __init__ raises -/
def spI (K : Fr) (cm : Str → Value) (F : List D → Option (Ex D)) (n : Nat) : Sp := fun vs H Q E => vs.length = n ∧ ∃ x vs' G ds z, vs = x :: vs' ∧ Same G H ∧ DqAll K G vs' ds ∧ F ds = some (.er z) ∧ ∀ G' H', Gr G H G' H' → E (cm z) none H'
theorem fnI {P : Program} {w : World} {K : Fr} {mg : Str → Option Value} {base : Heap} {x qual : Str} {st : Stmt} {f : Addr} {fd : FuncData} {N ps : List Str} {k : Nat} {cm : Str → Value} {W : List Nat} {body : MXS} (F : Fun K x qual st f fd) (S : FnScope N ps (defScope st))
    (h : ∀ (cdv : Value) (A : Around) (outer : List Env) (s : Shared) (H : Hp) (E : XK), Room k (A.deeper (envOfC qual (defScope st) s.heap.objs.size f cdv)) → PSs (cxOf (L2.CX P w) P w K mg base N qual (defScope st) f cdv A outer s H E) (defBody st) (tZS K cm (fun cls d _ H => E cls d H) W body)) :
    FnOk P w K mg base (L2.CX P w) (k + 1) f fd ps (spI K cm (runI ps.length N.length body) ps.length) := by
  refine F.okX S (fun vs H Q E h => h.1) (fun cdv A outer s H vs Q E hr hsp => ⟨_, h cdv A outer s H E hr, ?_⟩)
  obtain ⟨hl, v0, vs', G, ds, z, rfl, sG, dd, e, k⟩ := hsp
  unfold runI at e
  split at e
  · rename_i hn
    let R : Hp := fun a => if G a = none then H a else none
    have hR : ∀ a o, R a = some o → G a = none ∧ H a = some o := fun a o q => by
      by_cases z : G a = none
      · exact ⟨z, by have := q; simp only [R, z, if_true] at this; exact this⟩
      · have := q; simp only [R, z, if_false] at this; cases this
    have hRi : ∀ a o, G a = none → H a = some o → R a = some o := fun a o z q => by simp only [R, z, if_true]; exact q
    have rep0 : Rep K R G H (Sl.un :: (ds.map Sl.dat ++ List.replicate (N.length - ps.length) Sl.un)) (L2.start N (v0 :: vs')) := by
      refine ⟨?_, fun a o q => (hR a o q).2, sG, fun a o q => .inl (hR a o q).1, fun i s hs => ?_, fun i j c c' p h1 h2 _ _ => ?_⟩
      · have := dd.length
        simp [L2.start]
        omega
      · cases i with
        | zero => simp at hs; subst hs; trivial
        | succ i =>
          rw [List.getElem?_cons_succ] at hs
          by_cases hi : i < ds.length
          · rw [List.getElem?_append_left (by simpa using hi), List.getElem?_map] at hs
            rw [List.getElem?_eq_getElem hi] at hs
            cases hs
            obtain ⟨v, hv, dv⟩ := dd.get (List.getElem?_eq_getElem hi)
            refine ⟨v, ?_, dv⟩
            show ((v0 :: vs').map some ++ _)[i + 1]? = _
            rw [List.getElem?_append_left (by rw [List.length_map, List.length_cons, dd.length]; omega), List.getElem?_map, List.getElem?_cons_succ, hv]
            rfl
          · rw [List.getElem?_append_right (by simpa using hi), List.getElem?_replicate] at hs
            split at hs
            · cases hs; trivial
            · cases hs
      · exfalso
        cases i with
        | zero => simp at h1
        | succ i =>
          rw [List.getElem?_cons_succ] at h1
          by_cases hi : i < ds.length
          · rw [List.getElem?_append_left (by simpa using hi), List.getElem?_map, List.getElem?_eq_getElem hi] at h1
            cases h1
          · rw [List.getElem?_append_right (by simpa using hi), List.getElem?_replicate] at h1
            split at h1 <;> cases h1
    have fin : ∀ G' H' (σ' : St) (ρ' : Ro), Same G G' → Rep K R G' H' ρ' σ' → Gr G H G' H' := fun G' H' σ' ρ' s r => by
      refine ⟨fun a o q => ?_, s, r.subG, fun a o q1 q2 => ?_⟩
      · cases z : G a with
        | none => exact r.subR a o (hRi a o z q)
        | some u =>
          have := sG a u z
          rw [q] at this
          cases this
          exact r.subG a _ (s a _ z)
      · cases z : H a with
        | none => exact .inl rfl
        | some u =>
          refine .inr ?_
          rcases r.dis a u (hRi a u q1 z) with w | w
          · rw [q2] at w; cases w
          · have w2 := r.subR a u (hRi a u q1 z)
            rw [r.subG a _ q2] at w2
            cases w2
            exact w
    rw [Option.bind_eq_some_iff] at e
    obtain ⟨⟨fl, ρ'⟩, q, e⟩ := e
    refine ⟨R, G, _, fl, ρ', rep0, q, ?_⟩
    cases fl with
    | er z => cases e; exact fun G' H' σ' s r _ => k G' H' (fin G' H' σ' _ s r)
    | ok fl => cases fl <;> cases e
  · cases e
def tMakeS (C : Addr) (sp : Sp) (E : St → XK) (t : TA) : TE := fun σ H Q => t σ H fun vs H1 => ∀ x dx, H1 x = none → H1 dx = none → dx ≠ x → sp (.ref x :: vs) (upd (upd H1 dx (.own x)) x (.ins C dx [])) (fun v H2 => v = .non ∧ Q (.ref x) H2) (E σ)
section
variable {X : Cx} {CX : CXT} {k : Nat} {f C : Addr} {fd : FuncData} {ps : List Str} {sp : Sp} {E : St → XK} {x m : Str} {p pos apos : Pos} {e o : Expr} {es : List Expr} {ta : TE} {t : TA}
theorem run_makeS {pins : List (Addr × Obj)} {σ : St} {H : Hp} {s : Shared} {Q : VK} {us : List Value} {vs : List V} (M : Mk X.K C f) (F : FnOk X.prog X.w X.K X.mg X.base CX k f fd ps sp) (hr : Room (k + 1) X.A) (hb : Binds X.K fd ps [])
    (hx : PassesAt CX X σ (E σ)) (I : Inv X pins σ H s) (r : Vals vs us)
    (h : ∀ x dx, H x = none → H dx = none → dx ≠ x → sp (.ref x :: vs) (upd (upd H dx (.own x)) x (.ins C dx [])) (fun v H2 => v = .non ∧ Q (.ref x) H2) (E σ)) :
    wpAny (model X.prog X.w) X.A (call (.ref C) us) (EP X pins σ Q) X.xe s := by
  have hq := h (s.heap.objs.size + 1) s.heap.objs.size (I.hok.fresh (Nat.le_succ _)) (I.hok.fresh (Nat.le_refl _)) (Nat.ne_of_lt (Nat.lt_succ_self _))
  have I2 := Inv.made (C := C) I
  have r2 : Vals (V.ref (s.heap.objs.size + 1) :: vs) (Value.ref (s.heap.objs.size + 1) :: us) := .cons rfl r
  have hl : (Value.ref (s.heap.objs.size + 1) :: us).length = ps.length := by
    have e := r2.length
    rw [F.len _ _ _ _ hq] at e
    exact e.symm
  have b := hb _ (Value.ref (s.heap.objs.size + 1) :: us) I2.kIn (by rw [List.append_nil]; exact hl)
  rw [List.append_nil] at b
  refine wpAny_call (make_map (f := f) I.kIn M.makes M.init (beq_iff_eq.mp M.fn) (codeAny_mono (F.run _ X.stack _ _ ⟨Value.ref (s.heap.objs.size + 1) :: us, []⟩ (Value.ref (s.heap.objs.size + 1) :: us) _ _ (E σ) (hr.make C us [])
    (I2.env0.make C us []) b r2 hq) fun r s' hq' => ?_))
  cases r with
  | error e => exact hx pins _ _ e s' I2 hq'
  | ok fl =>
    cases fl with
    | ret u =>
      obtain ⟨v, H', I3, rv, ev, q3⟩ := I2.after hq'
      subst ev
      exact ⟨rv, ⟨V.ref (s.heap.objs.size + 1), H', I3, rfl, q3⟩⟩
    | next => exact False.elim hq'
    | brk => exact False.elim hq'
    | cont => exact False.elim hq'
theorem pe_makeS (M : Mk X.K C f) (F : FnOk X.prog X.w X.K X.mg X.base CX k f fd ps sp) (hr : Room (k + 1) X.A) (hg : Gl X x) (hm : X.mg x = some (.ref C)) (hb : Binds X.K fd ps []) (hx : ∀ σ, PassesAt CX X σ (E σ))
    (ha : PA X (e :: es) t) (hdb : (x == ("__debug__" : Str)) = false := by decide) (he : starEach (e :: es) X.env = (false, eval e X.env) :: starEach es X.env := by rfl) (hpl : (backTo pos (starEach es X.env)).any (·.1) = false := by rfl) :
    PE X (.Call (.Name x p) (e :: es) [] pos) (tMakeS C sp E t) := by
  refine ⟨fun pins s σ H Q I h => ?_⟩
  refine wpAny_Call_Name_kw (ld_glob I hg hm ?_ hdb)
  refine PySem.W.callWith_K (h₀ := X.base) I.ok.mod.kin M.kp (thn (ha.run pos pins s σ H _ I h) fun us s1 ⟨vs, H1, I1, r, q⟩ => ⟨I1.kIn, ?_⟩) he hpl
  exact run_makeS M F hr hb (hx σ) I1 r q
end
def xMakeI (F : List D → Option (Ex D)) (m : M (List D)) : MX := fun ρ => (m ρ).bind fun p => match F p.1 with
  | some (.er z) => some (.er z, p.2)
  | _ => none
theorem runI_len {n N : Nat} {body : MXS} : ∀ ds d, runI n N body ds = some d → ds.length + 1 = n := fun ds d h => by
  unfold runI at h
  split at h
  · assumption
  · cases h
theorem xe_makeI {X : Cx} {cm : Str → Value} {Wx : WX} {pos p : Pos} {x : Str} {k : Nat} {f C : Addr} {fd : FuncData} {ps : List Str} {F : List D → Option (Ex D)} {n : Nat} {e : Expr} {es : List Expr} {m : M (List D)} (tk : Takes X Wx) (M : Mk X.K C f)
    (FO : FnOk X.prog X.w X.K X.mg X.base (L2.CX X.prog X.w) k f fd ps (spI X.K cm F n)) (hr : Room (k + 1) X.A) (hm : X.mg x = some (.ref C)) (hb : Binds X.K fd ps [])
    (ha : QA X (e :: es) m) (hF : ∀ ds d, F ds = some d → ds.length + 1 = n := by exact runI_len) (hg : Gl X x := by rfl) (hdb : (x == ("__debug__" : Str)) = false := by decide) (he : starEach (e :: es) X.env = (false, eval e X.env) :: starEach es X.env := by rfl) (hpl : (backTo pos (starEach es X.env)).any (·.1) = false := by rfl) :
    PE X (.Call (.Name x p) (e :: es) [] pos) (tZE X.K cm Wx (xMakeI F m)) := by
  refine PE.imp (pe_makeS (E := WE Wx) M FO hr hg hm hb (fun σ => passAt tk σ) ha hdb he hpl) fun σ H Q h => ?_
  obtain ⟨R, G, ρ, y, ρ', rp, e, kk⟩ := h
  unfold xMakeI at e
  rw [Option.bind_eq_some_iff] at e
  obtain ⟨⟨ds, ρ1⟩, hmm, e⟩ := e
  split at e
  · rename_i z hz
    cases e
    refine ⟨R, G, ρ, ds, ρ1, rp, hmm, fun G1 H1 v1 s1 r1 d1 x dx hx hdx hne => ?_⟩
    have g1 : Gr G1 H1 G1 (upd H1 dx (.own x)) := Gr.junk r1.subG hdx
    have g2 : Gr G1 (upd H1 dx (.own x)) G1 (upd (upd H1 dx (.own x)) x (.ins C dx [])) := Gr.junk g1.gh (by rw [upd_ne (Ne.symm hne)]; exact hx)
    refine ⟨?_, _, v1, G1, ds, z, rfl, g2.gh, d1, hz, fun G2 H2 g3 => ?_⟩
    · rw [List.length_cons, d1.length]; exact hF _ _ hz
    · have g := (g1.trans g2).trans g3
      exact kk G2 H2 (s1.trans g.gg) (r1.grow g)
  · cases e
end QL
set_option Elab.async false
set_option linter.all false
set_option maxRecDepth 100000
set_option maxHeartbeats 1000000
/-! ### Hall objects of one's own -/
namespace QL
open PySem PySem.Spec PyProof.Rows L2
structure HalC (K : Fr) (C : Addr) : Prop where
  ns : PySem.W.nsIn K mainGlobals "Hall" = some (some (.ref C))
  cls : Cls K C
  how : NoAttr K C "how"
  past : NoAttr K C "past"
  calls : NoAttr K C "calls"
abbrev halF (vh : V) (q r : Addr) : List (Str × V) := [(("how" : Str), vh), (("past" : Str), V.ref q), (("calls" : Str), V.ref r)]
def halS (ρ : Ro) (i : Nat) : Option (D × List D × List D) := match ρ[i]? with
  | some (.own (.hal a b c)) => some (a, b, c)
  | _ => none
theorem halS_some {ρ : Ro} {i : Nat} {h : D × List D × List D} (e : halS ρ i = some h) : ρ[i]? = some (.own (.hal h.1 h.2.1 h.2.2)) := by
  unfold halS at e
  split at e
  · cases e; assumption
  · cases e
/-- what a Hall is in the heap -/
structure HalH (K : Fr) (R G H : Hp) (C p dx : Addr) (vh : V) (q r : Addr) (ps cs : List V) (how : D) (past calls : List D) : Prop where
  at_ : H p = some (.ins C dx (halF vh q r))
  dh : Dq K G vh how
  hdx : H dx = some (.own p)
  hq : H q = some (.lst ps)
  hr : H r = some (.lst cs)
  dp : DqAll K G ps past
  dc : DqAll K G cs calls
  ne : q ≠ r
  g1 : G dx = none ∧ R dx = none
  g2 : G q = none ∧ R q = none
  g3 : G r = none ∧ R r = none
  gp : G p = none ∧ R p = none
theorem Rep.halAt {K : Fr} {R G H : Hp} {ρ : Ro} {σ : St} {i : Nat} {how : D} {past calls : List D} {C : Addr} (rp : Rep K R G H ρ σ) (hC : HalC K C) (h : ρ[i]? = some (.own (.hal how past calls))) :
    ∃ p dx vh q r ps cs, σ[i]? = some (some (.ref p)) ∧ HalH K R G H C p dx vh q r ps cs how past calls := by
  obtain ⟨p, ho, e, hp, gp, rpp, x⟩ := rp.slot i _ h
  cases ho <;> try exact x.elim
  rename_i C' dx fs
  obtain ⟨vh, q, r, ps, cs, n1, rfl, d1, h1, h2, h3, d2, d3, ne, g1, g2, g3⟩ := x
  have := hC.ns
  rw [n1] at this
  cases this
  exact ⟨p, dx, vh, q, r, ps, cs, e, hp, d1, h1, h2, h3, d2, d3, ne, g1, g2, g3, gp, rpp⟩
theorem HalH.ok {K : Fr} {R G H : Hp} {C p dx : Addr} {vh : V} {q r : Addr} {ps cs : List V} {how : D} {past calls : List D} (hC : HalC K C) (x : HalH K R G H C p dx vh q r ps cs how past calls) : OwOk K R G H p (.hal how past calls) (.ins C dx (halF vh q r)) :=
  ⟨vh, q, r, ps, cs, hC.ns, rfl, x.dh, x.hdx, x.hq, x.hr, x.dp, x.dc, x.ne, x.g1, x.g2, x.g3⟩
/-- something below one's own thing is written -/
theorem Rep.sub {K : Fr} {R G H : Hp} {ρ : Ro} {σ : St} {i : Nat} {c c' : Ow} {p q : Addr} {ho o : HO} (r : Rep K R G H ρ σ) (h : ρ[i]? = some (.own c)) (e : σ[i]? = some (some (.ref p))) (hp : H p = some ho) (hq : q ∈ subs c ho) (hne : q ≠ p) (hc : OwOk K R G (upd H q o) p c' ho) (hs : ∀ a ∈ subs c' ho, a ∈ subs c ho) :
    Rep K R G (upd H q o) (ρ.set i (.own c')) σ := by
  obtain ⟨p', ho', e', hp', gp, rp, x⟩ := r.slot i _ h
  rw [e] at e'
  cases e'
  rw [hp] at hp'
  cases hp'
  have hi : i < ρ.length := (List.getElem?_eq_some_iff.mp h).1
  obtain ⟨oq, w1, w2, w3, w4⟩ := OwOk_subs x q hq
  have fq : Ft H c σ[i]? q := ⟨p, ho, e, hp, .inr hq⟩
  have out : ∀ (j : Nat) (c1 : Ow) (a : Addr), i ≠ j → ρ[j]? = some (.own c1) → Ft H c1 σ[j]? a → a ≠ q := fun j c1 a hij hj fa z => by
    subst z
    exact hij (r.apart i j _ _ _ h hj fq fa)
  have key : ∀ (j : Nat) (s : Sl), i ≠ j → ρ[j]? = some s → SlOk K R G (upd H q o) s σ[j]? := fun j s hij hj => by
    have := r.slot j s hj
    cases s with
    | un => trivial
    | dat d => exact this
    | scr ns => exact this
    | ref t => exact this
    | own c =>
      obtain ⟨q', hq', eq, hq, gq, rq, xq⟩ := this
      exact ⟨q', hq', eq, by rw [upd_ne (out j c q' hij hj (.self eq hq))]; exact hq, gq, rq, OwOk_mono (.refl _) (fun a ha o h1 _ h3 h4 => ⟨by rw [upd_ne (out j c a hij hj ⟨q', hq', eq, hq, .inr ha⟩)]; exact h1, h3, h4⟩) xq⟩
  have own : ∀ (j : Nat) (c1 : Ow) (a : Addr), (ρ.set i (.own c'))[j]? = some (.own c1) → Ft (upd H q o) c1 σ[j]? a → ∃ c2, ρ[j]? = some (.own c2) ∧ Ft H c2 σ[j]? a := fun j c1 a hj fa => by
    by_cases hij : i = j
    · subst hij
      rw [List.getElem?_set_self hi] at hj
      cases hj
      obtain ⟨q2, hq2, eq, hh, m⟩ := fa
      rw [e] at eq
      cases eq
      rw [upd_ne (Ne.symm hne), hp] at hh
      cases hh
      exact ⟨c, h, p, ho, e, hp, m.imp id fun z => hs a z⟩
    · rw [List.getElem?_set_ne hij] at hj
      refine ⟨c1, hj, fa.back (r.slot j _ hj) fun q2 hq2 eq hh => ?_⟩
      rw [upd_ne (out j c1 q2 hij hj (.self eq hh))]
      exact hh
  refine ⟨by simpa using r.len, fun b u z => ?_, fun b u z => ?_, r.dis, fun j s hj => ?_, fun j k c1 c2 a h1 h2 h3 h4 => ?_⟩
  · have : b ≠ q := fun y => by subst y; rw [w4] at z; cases z
    rw [upd_ne this]; exact r.subR _ _ z
  · have : b ≠ q := fun y => by subst y; rw [w3] at z; cases z
    rw [upd_ne this]; exact r.subG _ _ z
  · by_cases hij : i = j
    · subst hij
      rw [List.getElem?_set_self hi] at hj
      cases hj
      exact ⟨p, ho, e, by rw [upd_ne (Ne.symm hne)]; exact hp, gp, rp, hc⟩
    · rw [List.getElem?_set_ne hij] at hj
      exact key j s hij hj
  · obtain ⟨d1, e1, f1⟩ := own j c1 a h1 h3
    obtain ⟨d2, e2, f2⟩ := own k c2 a h2 h4
    exact r.apart j k d1 d2 a e1 e2 f1 f2
theorem hal_subs {how : D} {past calls : List D} {C dx : Addr} {vh : V} {q r : Addr} {a : Addr} : a ∈ subs (.hal how past calls) (.ins C dx (halF vh q r)) ↔ a = dx ∨ a = q ∨ a = r := by
  show a ∈ dx :: (halF vh q r).filterMap _ ↔ _
  rw [List.mem_cons]
  refine or_congr Iff.rfl ?_
  have e2 : ¬ (("past" : Str) = ("how" : Str)) := by decide
  have e3 : ¬ (("calls" : Str) = ("how" : Str)) := by decide
  simp [halF, List.filterMap_cons, e2, e3, refOf]
section
variable {X : Cx} {C : Addr} {x : Str} {p pos apos cpos p2 : Pos}
/-! reading -/
def tRd (K : Fr) (f : Ro → Option D) : TE := fun σ H Q => ∃ R G ρ d, Rep K R G H ρ σ ∧ f ρ = some d ∧ ∀ v, Dq K G v d → Q v H
def rVar (i : Nat) : Ro → Option D := fun ρ => match ρ[i]? with
  | some (.dat d) => some d
  | _ => none
def rHow (i : Nat) : Ro → Option D := fun ρ => (halS ρ i).map fun h => h.1
theorem qr_var (i : Nat) (hN : X.N[i]? = some x := by rfl) (hv : Vis X.env.scope x := by first | exact Or.inl rfl | exact Or.inr (Or.inl rfl) | exact Or.inr (Or.inr rfl)) (hd : (x == ("__debug__" : Str)) = false := by decide) (hcd : (x == ("__classdict__" : Str)) = false := by decide) : PE X (.Name x p) (tRd X.K (rVar i)) := by
  refine PE.imp (pe_var hN hv hd hcd) fun σ H Q h => ?_
  obtain ⟨R, G, ρ, d, rp, e, k⟩ := h
  unfold rVar at e
  split at e
  · rename_i hs
    cases e
    obtain ⟨v, ev, dv⟩ := rp.slot i _ hs
    exact ⟨v, ev, k v dv⟩
  · cases e
theorem pe_halF (i : Nat) (hN : X.N[i]? = some x) (hv : Vis X.env.scope x) (hd : (x == ("__debug__" : Str)) = false) (hcd : (x == ("__classdict__" : Str)) = false) {f : Str} (hb : attributeBase (.Name x p) f X.env (eval (.Name x p) X.env) = eval (.Name x p) X.env) : PE X (.Attribute (.Name x p) f pos) (tFld X.K (tVar i) f) := pe_fld (pe_var hN hv hd hcd) hb
theorem qr_how (i : Nat) (hC : HalC X.K C) (hN : X.N[i]? = some x := by rfl) (hv : Vis X.env.scope x := by first | exact Or.inl rfl | exact Or.inr (Or.inl rfl) | exact Or.inr (Or.inr rfl)) (hd : (x == ("__debug__" : Str)) = false := by decide) (hcd : (x == ("__classdict__" : Str)) = false := by decide)
    (hb : attributeBase (.Name x p) "how" X.env (eval (.Name x p) X.env) = eval (.Name x p) X.env := by rfl) : PE X (.Attribute (.Name x p) "how" pos) (tRd X.K (rHow i)) := by
  refine PE.imp (pe_halF i hN hv hd hcd hb) fun σ H Q h => ?_
  obtain ⟨R, G, ρ, d, rp, e, k⟩ := h
  unfold rHow at e
  rw [Option.map_eq_some_iff] at e
  obtain ⟨⟨a, b, c⟩, h1, e⟩ := e
  cases e
  obtain ⟨p, dx, vh, q, r, ps, cs, ep, y⟩ := rp.halAt hC (halS_some h1)
  exact ⟨.ref p, ep, p, C, dx, _, vh, rfl, y.at_, hC.cls, hC.how, rfl, k vh y.dh⟩
def eHow (i : Nat) : M D := fun ρ => (halS ρ i).map fun h => (h.1, ρ)
theorem qe_how (i : Nat) (hC : HalC X.K C) (hN : X.N[i]? = some x := by rfl) (hv : Vis X.env.scope x := by first | exact Or.inl rfl | exact Or.inr (Or.inl rfl) | exact Or.inr (Or.inr rfl)) (hd : (x == ("__debug__" : Str)) = false := by decide) (hcd : (x == ("__classdict__" : Str)) = false := by decide)
    (hb : attributeBase (.Name x p) "how" X.env (eval (.Name x p) X.env) = eval (.Name x p) X.env := by rfl) : QE X (.Attribute (.Name x p) "how" pos) (eHow i) := by
  refine PE.imp (qr_how i hC hN hv hd hcd hb) fun σ H Q h => ?_
  obtain ⟨R, G, ρ, d, ρ', rp, e, k⟩ := h
  unfold eHow at e
  rw [Option.map_eq_some_iff] at e
  obtain ⟨y, h1, e⟩ := e
  cases e
  exact ⟨R, G, ρ, _, rp, by unfold rHow; rw [h1]; rfl, fun v dv => k G H v (.refl _) rp dv⟩
/-! x.how = e -/
def sHow (i : Nat) (m : M D) : MS := fun ρ => (m ρ).bind fun p => (halS p.2 i).map fun h => (.nx, p.2.set i (.own (.hal p.1 h.2.1 h.2.2)))
theorem qs_how (i : Nat) {e : Expr} {m : M D} {pos' : Pos} (hC : HalC X.K C) (he : QE X e m) (hN : X.N[i]? = some x := by rfl) (hv : Vis X.env.scope x := by first | exact Or.inl rfl | exact Or.inr (Or.inl rfl) | exact Or.inr (Or.inr rfl)) (hd : (x == ("__debug__" : Str)) = false := by decide) (hcd : (x == ("__classdict__" : Str)) = false := by decide)
    (hs : swapsWith e (some (.Attribute (.Name x p) "how" pos')) pos.line X.env = pure false := by rfl) : QS X [] (.Assign [.Attribute (.Name x p) "how" pos'] e pos) (sHow i m) := by
  refine PS.imp (ps_fld (pe_var hN hv hd hcd) he hs) fun E σ H h => ?_
  obtain ⟨R, G, ρ, f, ρ', rp, e0, k⟩ := h
  unfold sHow at e0
  rw [Option.bind_eq_some_iff] at e0
  obtain ⟨⟨d, ρ1⟩, h1, e0⟩ := e0
  rw [Option.map_eq_some_iff] at e0
  obtain ⟨⟨a, b, c⟩, h2, e0⟩ := e0
  cases e0
  refine ⟨R, G, ρ, d, ρ1, rp, h1, fun G1 H1 v1 s1 r1 d1 => ?_⟩
  obtain ⟨p, dx, vh, q, r, ps, cs, ep, y⟩ := r1.halAt hC (halS_some h2)
  refine ⟨.ref p, ep, p, C, dx, _, rfl, y.at_, hC.cls, hC.how, by show 3 < 1000; decide, ?_⟩
  have ef : putF ("how" : Str) v1 (halF vh q r) = halF v1 q r := by
    show (if ("how" : Str) = ("how" : Str) then _ else _) = _
    rw [if_pos rfl]
  rw [ef]
  have nd : dx ≠ p := fun z => by have := y.hdx; rw [z, y.at_] at this; cases this
  have nq : q ≠ p := fun z => by have := y.hq; rw [z, y.at_] at this; cases this
  have nr : r ≠ p := fun z => by have := y.hr; rw [z, y.at_] at this; cases this
  refine k G1 _ σ s1 (r1.write (halS_some h2) ep (c' := .hal d b c) (ho := .ins C dx (halF v1 q r)) ?_ ?_) (.refl _ _)
  · exact ⟨v1, q, r, ps, cs, hC.ns, rfl, d1, by rw [upd_ne nd]; exact y.hdx, by rw [upd_ne nq]; exact y.hq, by rw [upd_ne nr]; exact y.hr, y.dp, y.dc, y.ne, y.g1, y.g2, y.g3⟩
  · intro old ho a ha
    rw [y.at_] at ho
    cases ho
    exact hal_subs.mpr (hal_subs.mp ha)
/-! x.past.append(e), x.past.pop(), x.past == [] and the same of calls -/
def ePastApp (i : Nat) (f : Ro → Option D) : M D := fun ρ => (halS ρ i).bind fun h => (f ρ).bind fun d => if h.2.1.length < 1000000 then some (.none, ρ.set i (.own (.hal h.1 (h.2.1 ++ [d]) h.2.2))) else none
def eCallsApp (i : Nat) (f : Ro → Option D) : M D := fun ρ => (halS ρ i).bind fun h => (f ρ).bind fun d => if h.2.2.length < 1000000 then some (.none, ρ.set i (.own (.hal h.1 h.2.1 (h.2.2 ++ [d])))) else none
def ePastPop (i : Nat) : M D := fun ρ => (halS ρ i).bind fun h => (h.2.1[h.2.1.length - 1]?).map fun d => (d, ρ.set i (.own (.hal h.1 h.2.1.dropLast h.2.2)))
def eCallsPop (i : Nat) : M D := fun ρ => (halS ρ i).bind fun h => (h.2.2[h.2.2.length - 1]?).map fun d => (d, ρ.set i (.own (.hal h.1 h.2.1 h.2.2.dropLast)))
def ePastNil (i : Nat) : M D := fun ρ => (halS ρ i).bind fun h => if SeqAt.shaped (.list h.2.1) = true then some (.bool h.2.1.isEmpty, ρ) else none
theorem HalH.nq {K : Fr} {R G H : Hp} {C p dx : Addr} {vh : V} {q r : Addr} {ps cs : List V} {how : D} {past calls : List D} (y : HalH K R G H C p dx vh q r ps cs how past calls) : q ≠ p ∧ r ≠ p ∧ dx ≠ q ∧ dx ≠ r :=
  ⟨(fun z => by have := y.hq; rw [z, y.at_] at this; cases this), (fun z => by have := y.hr; rw [z, y.at_] at this; cases this), (fun z => by have := y.hdx; rw [z, y.hq] at this; cases this), (fun z => by have := y.hdx; rw [z, y.hr] at this; cases this)⟩
theorem Rep.halPast {K : Fr} {R G H : Hp} {ρ : Ro} {σ : St} {i : Nat} {C p dx : Addr} {vh : V} {q r : Addr} {ps cs ps' : List V} {how : D} {past calls past' : List D} (rp : Rep K R G H ρ σ) (hC : HalC K C) (h : ρ[i]? = some (.own (.hal how past calls))) (ep : σ[i]? = some (some (.ref p))) (y : HalH K R G H C p dx vh q r ps cs how past calls) (hd : DqAll K G ps' past') :
    Rep K R G (upd H q (.lst ps')) (ρ.set i (.own (.hal how past' calls))) σ := by
  obtain ⟨n1, n2, n3, n4⟩ := y.nq
  refine rp.sub h ep y.at_ (hal_subs.mpr (.inr (.inl rfl))) n1 ?_ fun a ha => hal_subs.mpr (hal_subs.mp ha)
  exact ⟨vh, q, r, ps', cs, hC.ns, rfl, y.dh, by rw [upd_ne n3]; exact y.hdx, upd_same, by rw [upd_ne (Ne.symm y.ne)]; exact y.hr, hd, y.dc, y.ne, y.g1, y.g2, y.g3⟩
theorem Rep.halCalls {K : Fr} {R G H : Hp} {ρ : Ro} {σ : St} {i : Nat} {C p dx : Addr} {vh : V} {q r : Addr} {ps cs cs' : List V} {how : D} {past calls calls' : List D} (rp : Rep K R G H ρ σ) (hC : HalC K C) (h : ρ[i]? = some (.own (.hal how past calls))) (ep : σ[i]? = some (some (.ref p))) (y : HalH K R G H C p dx vh q r ps cs how past calls) (hd : DqAll K G cs' calls') :
    Rep K R G (upd H r (.lst cs')) (ρ.set i (.own (.hal how past calls'))) σ := by
  obtain ⟨n1, n2, n3, n4⟩ := y.nq
  refine rp.sub h ep y.at_ (hal_subs.mpr (.inr (.inr rfl))) n2 ?_ fun a ha => hal_subs.mpr (hal_subs.mp ha)
  exact ⟨vh, q, r, ps, cs', hC.ns, rfl, y.dh, by rw [upd_ne n4]; exact y.hdx, by rw [upd_ne y.ne]; exact y.hq, upd_same, y.dp, hd, y.ne, y.g1, y.g2, y.g3⟩
theorem DqAll.dropLast {K : Fr} {G : Hp} : ∀ {vs : List V} {ds : List D}, DqAll K G vs ds → DqAll K G vs.dropLast ds.dropLast
  | [], [], .nil => .nil
  | [_], [_], .cons _ .nil => .nil
  | _ :: _ :: _, _ :: _ :: _, .cons a (.cons b r) => .cons a (DqAll.dropLast (.cons b r))
theorem qe_pastApp (i : Nat) {a : Expr} {f : Ro → Option D} {fpos : Pos} (hC : HalC X.K C) (ha : PE X a (tRd X.K f)) (hN : X.N[i]? = some x := by rfl) (hv : Vis X.env.scope x := by first | exact Or.inl rfl | exact Or.inr (Or.inl rfl) | exact Or.inr (Or.inr rfl)) (hd : (x == ("__debug__" : Str)) = false := by decide) (hcd : (x == ("__classdict__" : Str)) = false := by decide)
    (hb : attributeBase (.Name x p) "past" X.env (eval (.Name x p) X.env) = eval (.Name x p) X.env := by rfl)
    (hbase : attributeBase (.Attribute (.Name x p) "past" fpos) "append" X.env (eval (.Attribute (.Name x p) "past" fpos) X.env) = eval (.Attribute (.Name x p) "past" fpos) X.env := by rfl)
    (hfew : ((backTo cpos (starEach [a] X.env)).all (fun x => !x.1) && (backToKw cpos (keywordEach [] X.env)).all (fun x => x.1.isSome)
      && decide ([a].length + ([] : List Keyword).length + (if ([] : List Keyword).isEmpty then 0 else 1) < 30)) = true := by rfl)
    (hline : (apos.endLine == cpos.line) = true := by rfl) (hs : starEach [a] X.env = (false, eval a X.env) :: starEach [] X.env := by rfl) (hplain : (backTo cpos (starEach [] X.env)).any (·.1) = false := by rfl) :
    QE X (.Call (.Attribute (.Attribute (.Name x p) "past" fpos) "append" apos) [a] [] cpos) (ePastApp i f) := by
  refine PE.imp (pe_bm PySem.F.plainAttrs_list PySem.F.slot_list_append PySem.F.type_list_append mt_append (pe_halF i hN hv hd hcd hb) (pa_cons ha pa_nil hs) hbase hfew hline hs hplain) fun σ H Q h => ?_
  obtain ⟨R, G, ρ, d, ρ', rp, e, k⟩ := h
  unfold ePastApp at e
  rw [Option.bind_eq_some_iff] at e
  obtain ⟨⟨a0, b0, c0⟩, h1, e⟩ := e
  rw [Option.bind_eq_some_iff] at e
  obtain ⟨d0, h2, e⟩ := e
  split at e
  · rename_i hl
    cases e
    obtain ⟨p, dx, vh, q, r, ps, cs, ep, y⟩ := rp.halAt hC (halS_some h1)
    refine ⟨.ref p, ep, p, C, dx, _, .ref q, rfl, y.at_, hC.cls, hC.past, rfl, .inl ⟨rfl, _, SqL.of y.hq⟩, R, G, ρ, d0, rp, h2, fun v dv => ?_⟩
    refine ⟨q, ps, v, rfl, rfl, y.hq, by rw [y.dp.length]; exact Nat.lt_of_lt_of_le hl (by decide), k G _ _ (.refl _) (rp.halPast hC (halS_some h1) ep y (y.dp.append (.cons dv .nil))) .non⟩
  · cases e
theorem qe_callsApp (i : Nat) {a : Expr} {f : Ro → Option D} {fpos : Pos} (hC : HalC X.K C) (ha : PE X a (tRd X.K f)) (hN : X.N[i]? = some x := by rfl) (hv : Vis X.env.scope x := by first | exact Or.inl rfl | exact Or.inr (Or.inl rfl) | exact Or.inr (Or.inr rfl)) (hd : (x == ("__debug__" : Str)) = false := by decide) (hcd : (x == ("__classdict__" : Str)) = false := by decide)
    (hb : attributeBase (.Name x p) "calls" X.env (eval (.Name x p) X.env) = eval (.Name x p) X.env := by rfl)
    (hbase : attributeBase (.Attribute (.Name x p) "calls" fpos) "append" X.env (eval (.Attribute (.Name x p) "calls" fpos) X.env) = eval (.Attribute (.Name x p) "calls" fpos) X.env := by rfl)
    (hfew : ((backTo cpos (starEach [a] X.env)).all (fun x => !x.1) && (backToKw cpos (keywordEach [] X.env)).all (fun x => x.1.isSome)
      && decide ([a].length + ([] : List Keyword).length + (if ([] : List Keyword).isEmpty then 0 else 1) < 30)) = true := by rfl)
    (hline : (apos.endLine == cpos.line) = true := by rfl) (hs : starEach [a] X.env = (false, eval a X.env) :: starEach [] X.env := by rfl) (hplain : (backTo cpos (starEach [] X.env)).any (·.1) = false := by rfl) :
    QE X (.Call (.Attribute (.Attribute (.Name x p) "calls" fpos) "append" apos) [a] [] cpos) (eCallsApp i f) := by
  refine PE.imp (pe_bm PySem.F.plainAttrs_list PySem.F.slot_list_append PySem.F.type_list_append mt_append (pe_halF i hN hv hd hcd hb) (pa_cons ha pa_nil hs) hbase hfew hline hs hplain) fun σ H Q h => ?_
  obtain ⟨R, G, ρ, d, ρ', rp, e, k⟩ := h
  unfold eCallsApp at e
  rw [Option.bind_eq_some_iff] at e
  obtain ⟨⟨a0, b0, c0⟩, h1, e⟩ := e
  rw [Option.bind_eq_some_iff] at e
  obtain ⟨d0, h2, e⟩ := e
  split at e
  · rename_i hl
    cases e
    obtain ⟨p, dx, vh, q, r, ps, cs, ep, y⟩ := rp.halAt hC (halS_some h1)
    refine ⟨.ref p, ep, p, C, dx, _, .ref r, rfl, y.at_, hC.cls, hC.calls, rfl, .inl ⟨rfl, _, SqL.of y.hr⟩, R, G, ρ, d0, rp, h2, fun v dv => ?_⟩
    refine ⟨r, cs, v, rfl, rfl, y.hr, by rw [y.dc.length]; exact Nat.lt_of_lt_of_le hl (by decide), k G _ _ (.refl _) (rp.halCalls hC (halS_some h1) ep y (y.dc.append (.cons dv .nil))) .non⟩
  · cases e
theorem qe_pastPop (i : Nat) {fpos : Pos} (hC : HalC X.K C) (hN : X.N[i]? = some x := by rfl) (hv : Vis X.env.scope x := by first | exact Or.inl rfl | exact Or.inr (Or.inl rfl) | exact Or.inr (Or.inr rfl)) (hd : (x == ("__debug__" : Str)) = false := by decide) (hcd : (x == ("__classdict__" : Str)) = false := by decide)
    (hb : attributeBase (.Name x p) "past" X.env (eval (.Name x p) X.env) = eval (.Name x p) X.env := by rfl)
    (hbase : attributeBase (.Attribute (.Name x p) "past" fpos) "pop" X.env (eval (.Attribute (.Name x p) "past" fpos) X.env) = eval (.Attribute (.Name x p) "past" fpos) X.env := by rfl) (hline : (apos.endLine == cpos.line) = true := by rfl) :
    QE X (.Call (.Attribute (.Attribute (.Name x p) "past" fpos) "pop" apos) [] [] cpos) (ePastPop i) := by
  refine PE.imp (pe_bm0 PySem.F.plainAttrs_list PySem.F.slot_list_pop PySem.F.type_list_pop mt_pop (pe_halF i hN hv hd hcd hb) hbase hline) fun σ H Q h => ?_
  obtain ⟨R, G, ρ, d, ρ', rp, e, k⟩ := h
  unfold ePastPop at e
  rw [Option.bind_eq_some_iff] at e
  obtain ⟨⟨a0, b0, c0⟩, h1, e⟩ := e
  rw [Option.map_eq_some_iff] at e
  obtain ⟨d0, h2, e⟩ := e
  cases e
  obtain ⟨p, dx, vh, q, r, ps, cs, ep, y⟩ := rp.halAt hC (halS_some h1)
  obtain ⟨v, hv, dv⟩ := y.dp.get h2
  refine ⟨.ref p, ep, p, C, dx, _, .ref q, rfl, y.at_, hC.cls, hC.past, rfl, .inl ⟨rfl, _, SqL.of y.hq⟩, q, ps, v, rfl, rfl, y.hq, by rw [y.dp.length]; exact hv, k G _ _ (.refl _) (rp.halPast hC (halS_some h1) ep y y.dp.dropLast) dv⟩
theorem qe_callsPop (i : Nat) {fpos : Pos} (hC : HalC X.K C) (hN : X.N[i]? = some x := by rfl) (hv : Vis X.env.scope x := by first | exact Or.inl rfl | exact Or.inr (Or.inl rfl) | exact Or.inr (Or.inr rfl)) (hd : (x == ("__debug__" : Str)) = false := by decide) (hcd : (x == ("__classdict__" : Str)) = false := by decide)
    (hb : attributeBase (.Name x p) "calls" X.env (eval (.Name x p) X.env) = eval (.Name x p) X.env := by rfl)
    (hbase : attributeBase (.Attribute (.Name x p) "calls" fpos) "pop" X.env (eval (.Attribute (.Name x p) "calls" fpos) X.env) = eval (.Attribute (.Name x p) "calls" fpos) X.env := by rfl) (hline : (apos.endLine == cpos.line) = true := by rfl) :
    QE X (.Call (.Attribute (.Attribute (.Name x p) "calls" fpos) "pop" apos) [] [] cpos) (eCallsPop i) := by
  refine PE.imp (pe_bm0 PySem.F.plainAttrs_list PySem.F.slot_list_pop PySem.F.type_list_pop mt_pop (pe_halF i hN hv hd hcd hb) hbase hline) fun σ H Q h => ?_
  obtain ⟨R, G, ρ, d, ρ', rp, e, k⟩ := h
  unfold eCallsPop at e
  rw [Option.bind_eq_some_iff] at e
  obtain ⟨⟨a0, b0, c0⟩, h1, e⟩ := e
  rw [Option.map_eq_some_iff] at e
  obtain ⟨d0, h2, e⟩ := e
  cases e
  obtain ⟨p, dx, vh, q, r, ps, cs, ep, y⟩ := rp.halAt hC (halS_some h1)
  obtain ⟨v, hv, dv⟩ := y.dc.get h2
  refine ⟨.ref p, ep, p, C, dx, _, .ref r, rfl, y.at_, hC.cls, hC.calls, rfl, .inl ⟨rfl, _, SqL.of y.hr⟩, r, cs, v, rfl, rfl, y.hr, by rw [y.dc.length]; exact hv, k G _ _ (.refl _) (rp.halCalls hC (halS_some h1) ep y y.dc.dropLast) dv⟩
theorem pastNil_read {i : Nat} {σ : St} {H : Hp} {Q : VK} {K : Fr} (hC : HalC K C) (h : tM K (ePastNil i) σ H Q) : tOp (rEqD K) (tFld K (tVar i) "past") (tLst tNil) σ H Q := by
  obtain ⟨R, G, ρ, d, ρ', rp, e, k⟩ := h
  unfold ePastNil at e
  rw [Option.bind_eq_some_iff] at e
  obtain ⟨⟨a0, b0, c0⟩, h1, e⟩ := e
  split at e
  · rename_i hsh
    cases e
    obtain ⟨p, dx, vh, q, r, ps, cs, ep, y⟩ := rp.halAt hC (halS_some h1)
    refine ⟨.ref p, ep, p, C, dx, _, .ref q, rfl, y.at_, hC.cls, hC.past, rfl, by decide, fun l hl => ?_⟩
    have g : Gr G H G (upd H l (.lst [])) := Gr.junk rp.subG hl
    refine ⟨.list b0, .list [], .lst (SqL.of (g.hh _ _ y.hq)) (DqAll.dp (rp.subG.trans g.hh) y.dp (shaped_layAll hsh)), .lst (SqL.of upd_same) .nil, hsh, by decide, ?_⟩
    rw [eqv_nil]
    exact k G _ _ (.refl _) (rp.grow g) (.bl _)
  · cases e
theorem qt_pastNil (i : Nat) {kk : Nat} {fpos : Pos} (hC : HalC X.K C) (hr : Room kk X.A) (hN : X.N[i]? = some x := by rfl) (hv : Vis X.env.scope x := by first | exact Or.inl rfl | exact Or.inr (Or.inl rfl) | exact Or.inr (Or.inr rfl)) (hd : (x == ("__debug__" : Str)) = false := by decide) (hcd : (x == ("__classdict__" : Str)) = false := by decide)
    (hb : attributeBase (.Name x p) "past" X.env (eval (.Name x p) X.env) = eval (.Name x p) X.env := by rfl) :
    QT X (.Compare (.Attribute (.Name x p) "past" fpos) [.Eq] [.List [] p2] pos) (cV (ePastNil i)) := PT.imp (pt_cmpR (op_eqD hr.units) (pe_halF i hN hv hd hcd hb) (pe_lst pa_nil) (nomark _)) fun σ H Q h => pastNil_read hC (tM_cV h)
end
end QL
set_option Elab.async false
set_option linter.all false
set_option maxRecDepth 100000
set_option maxHeartbeats 1000000
/-! ### methods of a Hall of one's own -/
namespace QL
open PySem PySem.Spec PyProof.Rows L2
def tMethE (C : Addr) (m : Str) (sp : Sp) (E : St → XK) (ta : TE) (t : TA) : TE := fun σ H Q => ta σ H fun x H1 => ∃ a dx fs, x = .ref a ∧ H1 a = some (.ins C dx fs) ∧ fs.lookup m = none ∧ t σ H1 fun vs H2 => sp (x :: vs) H2 Q (E σ)
section
variable {X : Cx} {CX : CXT} {k : Nat} {f C : Addr} {fd : FuncData} {ps : List Str} {sp : Sp} {E : St → XK} {m : Str} {p pos apos : Pos} {e o : Expr} {es : List Expr} {ta : TE} {t : TA}
theorem pe_methE {pl : Sem Bool} (he : PE X o ta) (c : Cls X.K C) (hm : Meth X.K C m f) (F : FnOk X.prog X.w X.K X.mg X.base CX k f fd ps sp) (hr : Room k X.A) (hb : Binds X.K fd ps []) (hx : ∀ σ, PassesAt CX X σ (E σ)) (ha : PA X (e :: es) t)
    (hst : starEach (e :: es) X.env = (false, eval e X.env) :: starEach es X.env := by rfl) (hpl : (backTo pos (starEach es X.env)).any (·.1) = false := by rfl)
    (ht : eval (.Call (.Attribute o m apos) (e :: es) [] pos) X.env = (do
      let ov ← eval o X.env
      standAt apos.atName
      let (f, first) ← holding [ov] (getMethod ov m pl)
      callWith pos f first (backTo pos (starEach (e :: es) X.env)) (backToKw pos (keywordEach [] X.env))) := by rfl) :
    PE X (.Call (.Attribute o m apos) (e :: es) [] pos) (tMethE C m sp E ta t) := by
  refine ⟨fun pins s σ H Q I h => ?_⟩
  refine PySem.W.methodCall_KW (pl := pl) (thn (he.run pins s σ H _ I h) fun u s1 ⟨x, H1, I1, rx, a, dx, fs, ex, ea, l, q⟩ => ?_) ht
  subst ex
  obtain rfl : u = Value.ref a := rx
  refine getmeth_ok I1 ea c hm l ?_
  refine PySem.W.callWith_K (first := [.ref a]) (h₀ := X.base) I.ok.mod.kin hm.kp (thn (ha.run pos pins s1 σ H1 _ I1 q) fun us s2 ⟨vs, H2, I2, r, q2⟩ => ⟨I2.kIn, ?_⟩) hst hpl
  exact run_fnS (us := .ref a :: us) (vs := .ref a :: vs) F hr hb (hx σ) I2 (.cons rfl r) q2
theorem pe_methE0 {pl : Sem Bool} (he : PE X o ta) (c : Cls X.K C) (hm : Meth X.K C m f) (F : FnOk X.prog X.w X.K X.mg X.base CX k f fd ps sp) (hr : Room k X.A) (hb : Binds X.K fd ps []) (hx : ∀ σ, PassesAt CX X σ (E σ))
    (ht : eval (.Call (.Attribute o m apos) [] [] pos) X.env = (do
      let ov ← eval o X.env
      standAt apos.atName
      let (f, first) ← holding [ov] (getMethod ov m pl)
      callWith pos f first (backTo pos (starEach [] X.env)) (backToKw pos (keywordEach [] X.env))) := by rfl) :
    PE X (.Call (.Attribute o m apos) [] [] pos) (tMethE C m sp E ta tNil) := by
  refine ⟨fun pins s σ H Q I h => ?_⟩
  refine PySem.W.methodCall_KW (pl := pl) (thn (he.run pins s σ H _ I h) fun u s1 ⟨x, H1, I1, rx, a, dx, fs, ex, ea, l, q⟩ => ?_) ht
  subst ex
  obtain rfl : u = Value.ref a := rx
  refine getmeth_ok I1 ea c hm l ?_
  exact PySem.W.callWith_K0 (first := [.ref a]) I1.kIn hm.kp (run_fnS (us := [.ref a]) (vs := [.ref a]) F hr hb (hx σ) I1 (.cons rfl .nil) q)
end
theorem passAt0 {X : Cx} {σ : St} {E : XK} : PassesAt CX0 X σ E := fun _ _ _ _ _ _ h => h.elim
/-- a name that is none of the three fields -/
abbrev noFld (m : Str) : Prop := m ≠ ("how" : Str) ∧ m ≠ ("past" : Str) ∧ m ≠ ("calls" : Str)
theorem noFld.none {m : Str} (h : noFld m) {vh : V} {q r : Addr} : (halF vh q r).lookup m = Option.none := by
  have h1 : (m == ("how" : Str)) = false := beq_eq_false_iff_ne.mpr h.1
  have h2 : (m == ("past" : Str)) = false := beq_eq_false_iff_ne.mpr h.2.1
  have h3 : (m == ("calls" : Str)) = false := beq_eq_false_iff_ne.mpr h.2.2
  simp only [halF, List.lookup, h1, h2, h3]
/-! x.m(args), a method that does not raise -/
def eMeth (F : List Sl → Option (D × List Sl)) (i : Nat) (m : M (List Ar)) : M D := fun ρ => (halS ρ i).bind fun _ => (m ρ).bind fun p => if (ownIx p.2 (.var i :: p.1)).Nodup then (F ((Ar.var i :: p.1).map (toSl p.2))).map fun r => (r.1, put (.var i :: p.1) r.2 (clr (.var i :: p.1) p.2)) else none
section
variable {X : Cx} {k : Nat} {f C : Addr} {fd : FuncData} {ps : List Str} {x mn : Str} {p pos apos : Pos} {e : Expr} {es : List Expr} {F : List Sl → Option (D × List Sl)} {n : Nat}
theorem meth_read {σ : St} {H : Hp} {Q : VK} {i : Nat} {m : M (List Ar)} {E : St → XK} (hC : HalC X.K C) (hn : noFld mn) (hF : FOk n F) (h : tM X.K (eMeth F i m) σ H Q) : tMethE C mn (spO X.K F n) E (tVar i) (tMY X.K m) σ H Q := by
  obtain ⟨R, G, ρ, d, ρ', rp, e, k⟩ := h
  unfold eMeth at e
  rw [Option.bind_eq_some_iff] at e
  obtain ⟨⟨a0, b0, c0⟩, h0, e⟩ := e
  rw [Option.bind_eq_some_iff] at e
  obtain ⟨⟨as, ρ1⟩, h1, e⟩ := e
  simp only at e
  split at e
  · rename_i nd
    rw [Option.map_eq_some_iff] at e
    obtain ⟨⟨d', ss'⟩, h2, e⟩ := e
    cases e
    obtain ⟨p, dx, vh, q, r, ps, cs, ep, y⟩ := rp.halAt hC (halS_some h0)
    refine ⟨.ref p, ep, p, dx, _, rfl, y.at_, hn.none, R, G, ρ, as, ρ1, rp, h1, fun G1 H1 vs s1 r1 d1 => ?_⟩
    have d2 : ArAll X.K G1 σ (.ref p :: vs) (.var i :: as) := .var ep d1
    refine ⟨by rw [d2.length, ← hF.len _ _ h2, List.length_map], ?_⟩
    obtain ⟨Rc, rep, back⟩ := r1.hand nd d2
    exact ⟨Rc, G1, _, d', ss', rep, h2, fun G2 H2 v s2 r2 dv => k G2 H2 v (s1.trans s2) (back G2 H2 ss' s2 r2) dv⟩
  · cases e
theorem qe_meth (i : Nat) {m : M (List Ar)} (hC : HalC X.K C) (hm : Meth X.K C mn f) (FO : FnOk X.prog X.w X.K X.mg X.base CX0 k f fd ps (spO X.K F n)) (hr : Room k X.A) (hb : Binds X.K fd ps []) (ha : QY X (e :: es) m) (hF : FOk n F := by exact runO_ok) (hn : noFld mn := by decide) (hN : X.N[i]? = some x := by rfl) (hv : Vis X.env.scope x := by first | exact Or.inl rfl | exact Or.inr (Or.inl rfl) | exact Or.inr (Or.inr rfl)) (hd : (x == ("__debug__" : Str)) = false := by decide) (hcd : (x == ("__classdict__" : Str)) = false := by decide)
    {pl : Sem Bool} (hst : starEach (e :: es) X.env = (false, eval e X.env) :: starEach es X.env := by rfl) (hpl : (backTo pos (starEach es X.env)).any (·.1) = false := by rfl)
    (ht : eval (.Call (.Attribute (.Name x p) mn apos) (e :: es) [] pos) X.env = (do
      let ov ← eval (.Name x p) X.env
      standAt apos.atName
      let (f, first) ← holding [ov] (getMethod ov mn pl)
      callWith pos f first (backTo pos (starEach (e :: es) X.env)) (backToKw pos (keywordEach [] X.env))) := by rfl) :
    QE X (.Call (.Attribute (.Name x p) mn apos) (e :: es) [] pos) (eMeth F i m) :=
  PE.imp (pe_methE (E := fun _ _ _ _ => False) (pe_var hN hv hd hcd) hC.cls hm FO hr hb (fun _ => passAt0) ha hst hpl ht) fun σ H Q h => meth_read hC hn hF h
theorem qe_meth0 (i : Nat) (hC : HalC X.K C) (hm : Meth X.K C mn f) (FO : FnOk X.prog X.w X.K X.mg X.base CX0 k f fd ps (spO X.K F n)) (hr : Room k X.A) (hb : Binds X.K fd ps []) (hF : FOk n F := by exact runO_ok) (hn : noFld mn := by decide) (hN : X.N[i]? = some x := by rfl) (hv : Vis X.env.scope x := by first | exact Or.inl rfl | exact Or.inr (Or.inl rfl) | exact Or.inr (Or.inr rfl)) (hd : (x == ("__debug__" : Str)) = false := by decide) (hcd : (x == ("__classdict__" : Str)) = false := by decide)
    {pl : Sem Bool} (ht : eval (.Call (.Attribute (.Name x p) mn apos) [] [] pos) X.env = (do
      let ov ← eval (.Name x p) X.env
      standAt apos.atName
      let (f, first) ← holding [ov] (getMethod ov mn pl)
      callWith pos f first (backTo pos (starEach [] X.env)) (backToKw pos (keywordEach [] X.env))) := by rfl) :
    QE X (.Call (.Attribute (.Name x p) mn apos) [] [] pos) (eMeth F i yNil) := by
  refine PE.imp (pe_methE0 (E := fun _ _ _ _ => False) (pe_var hN hv hd hcd) hC.cls hm FO hr hb (fun _ => passAt0) ht) fun σ H Q h => ?_
  obtain ⟨v, ev, a, dx, fs, h1, h2, h3, R, G, ρ, as, ρ1, rp, e, w⟩ := meth_read (E := fun _ _ _ _ => False) hC hn hF h
  cases e
  exact ⟨v, ev, a, dx, fs, h1, h2, h3, w G H [] (.refl _) rp .nil⟩
end
end QL
set_option Elab.async false
set_option linter.all false
set_option maxRecDepth 100000
set_option maxHeartbeats 1000000
/-! ### defs that may raise and are given objects of their caller's -/
namespace QL
open PySem PySem.Spec PyProof.Rows L2
def spOX (K : Fr) (cm : Str → Value) (F : List Sl → Option (Ex D × List Sl)) (n : Nat) : Sp := fun vs H Q E => vs.length = n ∧ ∃ R G ss r ss', Rep K R G H ss (vs.map some) ∧ F ss = some (r, ss') ∧ match r with
  | .ok d => ∀ G' H' v, Same G G' → Rep K R G' H' ss' (vs.map some) → Dq K G' v d → Q v H'
  | .er z => ∀ G' H', Same G G' → Rep K R G' H' ss' (vs.map some) → E (cm z) none H'
def endOX (ss : List Sl) : Ex Fl × Ro → Option (Ex D × List Sl)
  | (.ok (.rt d), ρ) => some (.ok d, backO ss ρ)
  | (.ok .nx, ρ) => some (.ok .none, backO ss ρ)
  | (.er z, ρ) => some (.er z, backO ss ρ)
  | _ => none
def runOX (os : List Nat) (n N : Nat) (body : MXS) : List Sl → Option (Ex D × List Sl) := fun ss => if ss.length = n ∧ n ≤ N ∧ ownsIn os 0 ss = true then (body (ss ++ List.replicate (N - n) Sl.un)).bind fun p => if n ≤ p.2.length then endOX ss p else none else none
theorem runOX_len {os : List Nat} {n N : Nat} {body : MXS} : ∀ ss r, runOX os n N body ss = some r → ss.length = n := fun ss r h => by
  unfold runOX at h
  split at h
  · rename_i z; exact z.1
  · cases h
theorem fnOX {P : Program} {w : World} {K : Fr} {mg : Str → Option Value} {base : Heap} {x qual : Str} {st : Stmt} {f : Addr} {fd : FuncData} {N ps : List Str} {k : Nat} {cm : Str → Value} {W : List Nat} {body : MXS} (F : Fun K x qual st f fd) (S : FnScope N ps (defScope st))
    (h : ∀ (cdv : Value) (A : Around) (outer : List Env) (s : Shared) (H : Hp) (E : XK), Room k (A.deeper (envOfC qual (defScope st) s.heap.objs.size f cdv)) → PSs (cxOf (L2.CX P w) P w K mg base N qual (defScope st) f cdv A outer s H E) (defBody st) (tZS K cm (fun cls d _ H => E cls d H) W body))
    (os : List Nat) (hW : ∀ i ∈ os, i ∉ W) (hN : ps.length ≤ N.length := by decide) : FnOk P w K mg base (L2.CX P w) (k + 1) f fd ps (spOX K cm (runOX os ps.length N.length body) ps.length) := by
  refine F.okX S (fun vs H Q E h => h.1) (fun cdv A outer s H vs Q E hr hsp => ⟨_, h cdv A outer s H E hr, ?_⟩)
  obtain ⟨hl, R, G, ss, d, ss', rp, e, k⟩ := hsp
  unfold runOX at e
  split at e
  · rename_i hn
    obtain ⟨hn, _, ho⟩ := hn
    rw [Option.bind_eq_some_iff] at e
    obtain ⟨⟨fl, ρ'⟩, h1, e⟩ := e
    simp only at e
    by_cases hlen : ps.length ≤ ρ'.length
    rotate_left
    · rw [if_neg hlen] at e; cases e
    rw [if_pos hlen] at e
    have hss : ss.length = vs.length := by rw [hn, hl]
    have sget : ∀ l : Nat, l < vs.length → (L2.start N vs)[l]? = (vs.map some)[l]? := fun l hl' => by
      show (vs.map some ++ _)[l]? = _
      rw [List.getElem?_append_left (by simpa using hl')]
    have rep0 : Rep K R G H (ss ++ List.replicate (N.length - ps.length) Sl.un) (L2.start N vs) := by
      have key : ∀ (i : Nat) (t : Sl), (ss ++ List.replicate (N.length - ps.length) Sl.un)[i]? = some t → t = .un ∨ (ss[i]? = some t ∧ (L2.start N vs)[i]? = (vs.map some)[i]?) := fun i t ht => by
        by_cases hi : i < ss.length
        · rw [List.getElem?_append_left hi] at ht
          exact .inr ⟨ht, sget i (by rw [← hss]; exact hi)⟩
        · rw [List.getElem?_append_right (by omega), List.getElem?_replicate] at ht
          split at ht
          · exact .inl (Option.some.inj ht).symm
          · cases ht
      refine ⟨?_, rp.subR, rp.subG, rp.dis, fun i t ht => ?_, fun i j c c' p h1 h2 h3 h4 => ?_⟩
      · simp [L2.start, hss, hl]
      · rcases key i t ht with rfl | ⟨a, b⟩
        · trivial
        · rw [b]; exact rp.slot i t a
      · rcases key i _ h1 with z | ⟨a, b⟩
        · cases z
        · rcases key j _ h2 with z | ⟨a2, b2⟩
          · cases z
          · rw [b] at h3; rw [b2] at h4
            exact rp.apart i j c c' p a a2 h3 h4
    have fin : ∀ G' H' (σ' : L2.St), Same G G' → Rep K R G' H' ρ' σ' → Frm W (L2.start N vs) σ' → ss.length ≤ ρ'.length → Rep K R G' H' (backO ss ρ') (vs.map some) := fun G' H' σ' sG r fr hlen => by
      have own : ∀ (l : Nat) (c : Ow), (backO ss ρ')[l]? = some (.own c) → ρ'[l]? = some (.own c) ∧ σ'[l]? = (vs.map some)[l]? := fun l c hs => by
        obtain ⟨s0, r0, a, b, e⟩ := backO_get ss ρ' l _ hlen hs
        obtain ⟨⟨c0, rfl⟩, rfl⟩ := pick_own e.symm
        refine ⟨b, ?_⟩
        have hm := ownsIn_get ss 0 l c0 ho a
        rw [Nat.zero_add] at hm
        rw [fr l (hW l hm), sget l (by rw [← hss]; exact (List.getElem?_eq_some_iff.mp a).1)]
      refine ⟨by rw [backO_length, List.length_map]; exact hss, r.subR, r.subG, r.dis, fun l t ht => ?_, fun i j c c' p h1 h2 h3 h4 => ?_⟩
      · obtain ⟨s0, r0, a, b, e⟩ := backO_get ss ρ' l t hlen ht
        subst e
        have so := rp.slot l s0 a
        cases s0 with
        | un => trivial
        | dat d => obtain ⟨v, e, x⟩ := so; exact ⟨v, e, Dq_mono sG x⟩
        | scr ns => obtain ⟨v, e, x⟩ := so; exact ⟨v, e, sG.seq x⟩
        | ref t => exact SlT_mono sG so
        | own c0 =>
          cases r0 with
          | un => trivial
          | dat d => trivial
          | scr ns => trivial
          | ref t => trivial
          | own c =>
            obtain ⟨o1, o2⟩ := own l c ht
            have := r.slot l _ o1
            rw [o2] at this
            exact this
      · obtain ⟨a1, b1⟩ := own i c h1
        obtain ⟨a2, b2⟩ := own j c' h2
        exact r.apart i j c c' p a1 a2 (by rw [b1]; exact h3) (by rw [b2]; exact h4)
    refine ⟨R, G, _, fl, ρ', rep0, h1, ?_⟩
    cases fl with
    | er z =>
      cases e
      exact fun G' H' σ' s r fr => k G' H' s (fin G' H' σ' s r fr (by rw [hn]; exact hlen))
    | ok fl =>
      cases fl with
      | nx =>
        cases e
        intro G' H' σ' s r fr
        exact k G' H' _ s (fin G' H' σ' s r fr (by rw [hn]; exact hlen)) .non
      | bk => cases e
      | ct => cases e
      | rt d =>
        cases e
        exact fun G' H' σ' v s r fr dv => k G' H' v s (fin G' H' σ' s r fr (by rw [hn]; exact hlen)) dv
  · cases e
/-! x.m(args), a method that may raise -/
def xMeth (F : List Sl → Option (Ex D × List Sl)) (i : Nat) (m : M (List Ar)) : MX := fun ρ => (halS ρ i).bind fun _ => (m ρ).bind fun p => if (ownIx p.2 (.var i :: p.1)).Nodup then (F ((Ar.var i :: p.1).map (toSl p.2))).map fun r => (r.1, put (.var i :: p.1) r.2 (clr (.var i :: p.1) p.2)) else none
section
variable {X : Cx} {cm : Str → Value} {Wx : WX} {k : Nat} {f C : Addr} {fd : FuncData} {ps : List Str} {x mn : Str} {p pos apos : Pos} {e : Expr} {es : List Expr} {F : List Sl → Option (Ex D × List Sl)} {n : Nat}
theorem xmeth_read {σ : St} {H : Hp} {Q : VK} {i : Nat} {m : M (List Ar)} (hC : HalC X.K C) (hn : noFld mn) (hF : ∀ ss r, F ss = some r → ss.length = n) (h : tZE X.K cm Wx (xMeth F i m) σ H Q) : tMethE C mn (spOX X.K cm F n) (WE Wx) (tVar i) (tMY X.K m) σ H Q := by
  obtain ⟨R, G, ρ, d, ρ', rp, e, k⟩ := h
  unfold xMeth at e
  rw [Option.bind_eq_some_iff] at e
  obtain ⟨⟨a0, b0, c0⟩, h0, e⟩ := e
  rw [Option.bind_eq_some_iff] at e
  obtain ⟨⟨as, ρ1⟩, h1, e⟩ := e
  simp only at e
  split at e
  · rename_i nd
    rw [Option.map_eq_some_iff] at e
    obtain ⟨⟨d', ss'⟩, h2, e⟩ := e
    cases e
    obtain ⟨p, dx, vh, q, r, ps, cs, ep, y⟩ := rp.halAt hC (halS_some h0)
    refine ⟨.ref p, ep, p, dx, _, rfl, y.at_, hn.none, R, G, ρ, as, ρ1, rp, h1, fun G1 H1 vs s1 r1 d1 => ?_⟩
    have d2 : ArAll X.K G1 σ (.ref p :: vs) (.var i :: as) := .var ep d1
    refine ⟨by rw [d2.length, ← hF _ _ h2, List.length_map], ?_⟩
    obtain ⟨Rc, rep, back⟩ := r1.hand nd d2
    refine ⟨Rc, G1, _, d', ss', rep, h2, ?_⟩
    cases d' with
    | ok d => exact fun G2 H2 v s2 r2 dv => k G2 H2 v (s1.trans s2) (back G2 H2 ss' s2 r2) dv
    | er z => exact fun G2 H2 s2 r2 => k G2 H2 (s1.trans s2) (back G2 H2 ss' s2 r2)
  · cases e
theorem xe_meth (i : Nat) {m : M (List Ar)} (tk : Takes X Wx) (hC : HalC X.K C) (hm : Meth X.K C mn f) (FO : FnOk X.prog X.w X.K X.mg X.base (L2.CX X.prog X.w) k f fd ps (spOX X.K cm F n)) (hr : Room k X.A) (hb : Binds X.K fd ps []) (ha : QY X (e :: es) m) (hF : ∀ ss r, F ss = some r → ss.length = n := by exact runOX_len) (hn : noFld mn := by decide) (hN : X.N[i]? = some x := by rfl) (hv : Vis X.env.scope x := by first | exact Or.inl rfl | exact Or.inr (Or.inl rfl) | exact Or.inr (Or.inr rfl)) (hd : (x == ("__debug__" : Str)) = false := by decide) (hcd : (x == ("__classdict__" : Str)) = false := by decide)
    {pl : Sem Bool} (hst : starEach (e :: es) X.env = (false, eval e X.env) :: starEach es X.env := by rfl) (hpl : (backTo pos (starEach es X.env)).any (·.1) = false := by rfl)
    (ht : eval (.Call (.Attribute (.Name x p) mn apos) (e :: es) [] pos) X.env = (do
      let ov ← eval (.Name x p) X.env
      standAt apos.atName
      let (f, first) ← holding [ov] (getMethod ov mn pl)
      callWith pos f first (backTo pos (starEach (e :: es) X.env)) (backToKw pos (keywordEach [] X.env))) := by rfl) :
    PE X (.Call (.Attribute (.Name x p) mn apos) (e :: es) [] pos) (tZE X.K cm Wx (xMeth F i m)) :=
  PE.imp (pe_methE (E := WE Wx) (pe_var hN hv hd hcd) hC.cls hm FO hr hb (fun σ => passAt tk σ) ha hst hpl ht) fun σ H Q h => xmeth_read hC hn hF h
theorem xe_meth0 (i : Nat) (tk : Takes X Wx) (hC : HalC X.K C) (hm : Meth X.K C mn f) (FO : FnOk X.prog X.w X.K X.mg X.base (L2.CX X.prog X.w) k f fd ps (spOX X.K cm F n)) (hr : Room k X.A) (hb : Binds X.K fd ps []) (hF : ∀ ss r, F ss = some r → ss.length = n := by exact runOX_len) (hn : noFld mn := by decide) (hN : X.N[i]? = some x := by rfl) (hv : Vis X.env.scope x := by first | exact Or.inl rfl | exact Or.inr (Or.inl rfl) | exact Or.inr (Or.inr rfl)) (hd : (x == ("__debug__" : Str)) = false := by decide) (hcd : (x == ("__classdict__" : Str)) = false := by decide)
    {pl : Sem Bool} (ht : eval (.Call (.Attribute (.Name x p) mn apos) [] [] pos) X.env = (do
      let ov ← eval (.Name x p) X.env
      standAt apos.atName
      let (f, first) ← holding [ov] (getMethod ov mn pl)
      callWith pos f first (backTo pos (starEach [] X.env)) (backToKw pos (keywordEach [] X.env))) := by rfl) :
    PE X (.Call (.Attribute (.Name x p) mn apos) [] [] pos) (tZE X.K cm Wx (xMeth F i yNil)) := by
  refine PE.imp (pe_methE0 (E := WE Wx) (pe_var hN hv hd hcd) hC.cls hm FO hr hb (fun σ => passAt tk σ) ht) fun σ H Q h => ?_
  obtain ⟨v, ev, a, dx, fs, h1, h2, h3, R, G, ρ, as, ρ1, rp, e, w⟩ := xmeth_read hC hn hF h
  cases e
  exact ⟨v, ev, a, dx, fs, h1, h2, h3, w G H [] (.refl _) rp .nil⟩
end
/-! x.m(a, b), a method that does not raise; b may -/
def xMeth2 (F : List Sl → Option (D × List Sl)) (i : Nat) (a : M D) (b : MX) : MX := fun ρ => (halS ρ i).bind fun _ => (a ρ).bind fun p => (b p.2).bind fun q => match q.1 with
  | .er z => some (.er z, q.2)
  | .ok d => if (ownIx q.2 [.var i, .dat p.1, .dat d]).Nodup then (F ([Ar.var i, .dat p.1, .dat d].map (toSl q.2))).map fun r => (.ok r.1, put [.var i, .dat p.1, .dat d] r.2 (clr [.var i, .dat p.1, .dat d] q.2)) else none
theorem xe_meth2 {X : Cx} {cm : Str → Value} {Wx : WX} {k : Nat} {f C : Addr} {fd : FuncData} {ps : List Str} {x mn : Str} {p pos apos : Pos} {ea eb : Expr} {F : List Sl → Option (D × List Sl)} {n : Nat} (i : Nat) {a : M D} {b : MX} (hC : HalC X.K C) (hm : Meth X.K C mn f) (FO : FnOk X.prog X.w X.K X.mg X.base CX0 k f fd ps (spO X.K F n)) (hr : Room k X.A) (hb : Binds X.K fd ps []) (h1 : QE X ea a) (h2 : PE X eb (tZE X.K cm Wx b)) (hF : FOk n F := by exact runO_ok) (hn : noFld mn := by decide) (hN : X.N[i]? = some x := by rfl) (hv : Vis X.env.scope x := by first | exact Or.inl rfl | exact Or.inr (Or.inl rfl) | exact Or.inr (Or.inr rfl)) (hd : (x == ("__debug__" : Str)) = false := by decide) (hcd : (x == ("__classdict__" : Str)) = false := by decide)
    {pl : Sem Bool} (hst : starEach [ea, eb] X.env = (false, eval ea X.env) :: starEach [eb] X.env := by rfl) (hst2 : starEach [eb] X.env = (false, eval eb X.env) :: starEach [] X.env := by rfl) (hpl : (backTo pos (starEach [eb] X.env)).any (·.1) = false := by rfl)
    (ht : eval (.Call (.Attribute (.Name x p) mn apos) [ea, eb] [] pos) X.env = (do
      let ov ← eval (.Name x p) X.env
      standAt apos.atName
      let (f, first) ← holding [ov] (getMethod ov mn pl)
      callWith pos f first (backTo pos (starEach [ea, eb] X.env)) (backToKw pos (keywordEach [] X.env))) := by rfl) :
    PE X (.Call (.Attribute (.Name x p) mn apos) [ea, eb] [] pos) (tZE X.K cm Wx (xMeth2 F i a b)) := by
  refine PE.imp (pe_methE (E := fun _ _ _ _ => False) (pe_var hN hv hd hcd) hC.cls hm FO hr hb (fun _ => passAt0) (pa_cons h1 (pa_cons h2 pa_nil hst2) hst) hst hpl ht) fun σ H Q h => ?_
  obtain ⟨R, G, ρ, d, ρ', rp, e, kk⟩ := h
  unfold xMeth2 at e
  rw [Option.bind_eq_some_iff] at e
  obtain ⟨⟨a0, b0, c0⟩, h0, e⟩ := e
  rw [Option.bind_eq_some_iff] at e
  obtain ⟨⟨y1, ρ1⟩, e1, e⟩ := e
  rw [Option.bind_eq_some_iff] at e
  obtain ⟨⟨r2, ρ2⟩, e2, e⟩ := e
  obtain ⟨p, dx, vh, q, r, ps, cs, ep, y⟩ := rp.halAt hC (halS_some h0)
  refine ⟨.ref p, ep, p, dx, _, rfl, y.at_, hn.none, R, G, ρ, y1, ρ1, rp, e1, fun G1 H1 v1 s1 r1 d1 => ⟨R, G1, ρ1, r2, ρ2, r1, e2, ?_⟩⟩
  cases r2 with
  | er z =>
    cases e
    exact fun G2 H2 s2 rr => kk G2 H2 (s1.trans s2) rr
  | ok d2 =>
    simp only at e
    split at e
    · rename_i nd
      rw [Option.map_eq_some_iff] at e
      obtain ⟨⟨d', ss'⟩, h3, e⟩ := e
      cases e
      intro G2 H2 v2 s2 rr2 dd2
      have da : ArAll X.K G2 σ [.ref p, v1, v2] [.var i, .dat y1, .dat d2] := .var ep (.dat (Dq_mono s2 d1) (.dat dd2 .nil))
      refine ⟨by rw [da.length, ← hF.len _ _ h3, List.length_map], ?_⟩
      obtain ⟨Rc, rep, back⟩ := rr2.hand nd da
      exact ⟨Rc, G2, _, d', ss', rep, h3, fun G3 H3 v s3 r3 dv => kk G3 H3 v ((s1.trans s2).trans s3) (back G3 H3 ss' s3 r3) dv⟩
    · cases e
end QL
set_option Elab.async false
set_option linter.all false
set_option maxRecDepth 100000
set_option maxHeartbeats 1000000
/-! ### x = Hall(e) -/
namespace QL
open PySem PySem.Spec PyProof.Rows L2
/-- the heap behind __init__ -/
abbrev newH (H : Hp) (C x dx q1 q2 : Addr) (v : V) : Hp :=
  upd (upd (upd (upd (upd H x (.ins C dx [(("how" : Str), v)])) q1 (.lst [])) x (.ins C dx [(("how" : Str), v), (("past" : Str), V.ref q1)])) q2 (.lst [])) x (.ins C dx (halF v q1 q2))
/-- what __init__ promises where need_plan lets the plan through -/
def spNew (K : Fr) (C : Addr) (F : List D → Option D) : Sp := fun vs H Q _ => ∃ x dx v G d r, vs = [.ref x, v] ∧ H x = some (.ins C dx []) ∧ Same G H ∧ Dq K G v d ∧ F [d] = some r ∧
  ∀ G' H1 q1 q2, Gr G H G' H1 → H1 q1 = none → H1 q2 = none → q2 ≠ q1 → Q .non (newH H1 C x dx q1 q2 v)
def oHall (F : List D → Option D) (a : M D) : M Ow := fun ρ => (a ρ).bind fun p => (F [p.1]).map fun _ => (.hal p.1 [] [], p.2)
theorem newH_dx {H : Hp} {C x dx q1 q2 : Addr} {v : V} {b : Addr} (h1 : b ≠ x) (h2 : b ≠ q1) (h3 : b ≠ q2) : newH H C x dx q1 q2 v b = H b := by
  unfold newH
  rw [upd_ne h1, upd_ne h3, upd_ne h1, upd_ne h2, upd_ne h1]
theorem qo_hall {X : Cx} {k : Nat} {f C : Addr} {fd : FuncData} {ps : List Str} {F : List D → Option D} {pos p : Pos} {e : Expr} {m : M D} (hC : HalC X.K C) (M : Mk X.K C f) (FO : FnOk X.prog X.w X.K X.mg X.base CX0 k f fd ps (spNew X.K C F)) (hr : Room (k + 1) X.A) (hm : X.mg "Hall" = some (.ref C)) (hb : Binds X.K fd ps []) (ha : QE X e m) (hg : Gl X "Hall" := by rfl) (hs : starEach [e] X.env = (false, eval e X.env) :: starEach [] X.env := by rfl) (hpl : (backTo pos (starEach [] X.env)).any (·.1) = false := by rfl) :
    QO X (.Call (.Name "Hall" p) [e] [] pos) (oHall F m) := by
  refine PE.imp (pe_makeS (E := fun _ _ _ _ => False) M FO hr hg hm hb (fun _ => passAt0) (pa_cons ha pa_nil hs) (by decide) hs hpl) fun σ H Q h => ?_
  obtain ⟨R, G, ρ, c, ρ', rp, e0, k⟩ := h
  unfold oHall at e0
  rw [Option.bind_eq_some_iff] at e0
  obtain ⟨⟨d, ρ1⟩, h1, e0⟩ := e0
  rw [Option.map_eq_some_iff] at e0
  obtain ⟨r0, h2, e0⟩ := e0
  cases e0
  refine ⟨R, G, ρ, d, ρ1, rp, h1, fun G1 H1 v1 s1 r1 d1 x dx hx hdx hne => ?_⟩
  have hx2 : upd H1 dx (.own x) x = none := by rw [upd_ne (Ne.symm hne)]; exact hx
  have ka : Rep X.K (upd R dx (.own x)) G1 (upd H1 dx (.own x)) ρ1 σ := r1.keep hdx
  have kb : Rep X.K (upd (upd R dx (.own x)) x (.ins C dx [])) G1 (upd (upd H1 dx (.own x)) x (.ins C dx [])) ρ1 σ := ka.keep hx2
  refine ⟨x, dx, v1, G1, d, r0, rfl, upd_same, kb.subG, d1, h2, fun G2 H2 q1 q2 g hq1 hq2 hqq => ⟨rfl, ?_⟩⟩
  have hHx : H2 x = some (.ins C dx []) := g.hh _ _ upd_same
  have hHdx : H2 dx = some (.own x) := g.hh _ _ (by rw [upd_ne hne]; exact upd_same)
  have nx1 : q1 ≠ x := fun z => by rw [z, hHx] at hq1; cases hq1
  have nx2 : q2 ≠ x := fun z => by rw [z, hHx] at hq2; cases hq2
  have nd1 : q1 ≠ dx := fun z => by rw [z, hHdx] at hq1; cases hq1
  have nd2 : q2 ≠ dx := fun z => by rw [z, hHdx] at hq2; cases hq2
  have nti : ∀ fs, ¬ isT (HO.ins C dx fs) := fun fs ⟨xs, z⟩ => by cases z
  have kc := kb.grow g
  have k1 := kc.rekeep (ho' := .ins C dx [(("how" : Str), v1)]) (nti _)
  have k2 := k1.keep (p := q1) (ho := .lst []) (by rw [upd_ne nx1]; exact hq1)
  -- the order of the others' is turned so that x stands last
  have sw : ∀ (A : Hp) (a b : Addr) (o u : HO), a ≠ b → upd (upd A a o) b u = upd (upd A b u) a o := fun A a b o u n => by
    funext c
    by_cases c1 : c = a
    · subst c1; rw [upd_ne n, upd_same, upd_same]
    · by_cases c2 : c = b
      · subst c2; rw [upd_same, upd_ne c1, upd_same]
      · rw [upd_ne c2, upd_ne c1, upd_ne c1, upd_ne c2]
  rw [sw _ x q1 _ _ (Ne.symm nx1)] at k2
  have k3 := k2.rekeep (ho' := .ins C dx [(("how" : Str), v1), (("past" : Str), V.ref q1)]) (nti _)
  have k4 := k3.keep (p := q2) (ho := .lst []) (by rw [upd_ne nx2, upd_ne hqq, upd_ne nx2]; exact hq2)
  rw [sw _ x q2 _ _ (Ne.symm nx2)] at k4
  have k5 := k4.rekeep (ho' := .ins C dx (halF v1 q1 q2)) (nti _)
  have rdx : R dx = none := r1.subR.free hdx
  have rx : R x = none := r1.subR.free hx
  -- q1, q2 are new: none of the others'
  have rq : ∀ q, H2 q = none → R q = none := fun q hq => by
    cases z : R q with
    | none => rfl
    | some u =>
      have n1 : q ≠ dx := fun y => by rw [y, hHdx] at hq; cases hq
      have n2 : q ≠ x := fun y => by rw [y, hHx] at hq; cases hq
      have := kc.subR q u (by rw [upd_ne n2, upd_ne n1]; exact z)
      rw [hq] at this
      cases this
  have gN : ∀ q o, upd (upd (upd (upd R dx (.own x)) q1 (.lst [])) q2 (.lst [])) x (.ins C dx (halF v1 q1 q2)) q = some o → ¬ isT o → G2 q = none := fun q o z nt => (k5.dis q o z).resolve_right nt
  have nl : ∀ xs, ¬ isT (HO.lst xs) := fun xs ⟨ys, z⟩ => by cases z
  have no : ¬ isT (HO.own x) := fun ⟨ys, z⟩ => by cases z
  have eR1 : upd (upd (upd (upd R dx (.own x)) q1 (.lst [])) q2 (.lst [])) x (.ins C dx (halF v1 q1 q2)) dx = some (.own x) := by rw [upd_ne hne, upd_ne (Ne.symm nd2), upd_ne (Ne.symm nd1), upd_same]
  have eR2 : upd (upd (upd (upd R dx (.own x)) q1 (.lst [])) q2 (.lst [])) x (.ins C dx (halF v1 q1 q2)) q1 = some (.lst []) := by rw [upd_ne nx1, upd_ne (Ne.symm hqq), upd_same]
  have eR3 : upd (upd (upd (upd R dx (.own x)) q1 (.lst [])) q2 (.lst [])) x (.ins C dx (halF v1 q1 q2)) q2 = some (.lst []) := by rw [upd_ne nx2, upd_same]
  have hH1 := k5.subR _ _ eR1
  have hH2 := k5.subR _ _ eR2
  have hH3 := k5.subR _ _ eR3
  refine k G2 _ x (s1.trans g.gg) (Rep.pushM (H := newH H2 C x dx q1 q2 v1) k5 upd_same (ho := .ins C dx (halF v1 q1 q2)) ?_ (fun a ha => ?_) (fun a ha => ?_) (.refl _))
  · exact ⟨v1, q1, q2, [], [], hC.ns, rfl, Dq_mono g.gg d1, hH1, hH2, hH3, .nil, .nil, Ne.symm hqq, ⟨gN _ _ eR1 no, rdx⟩, ⟨gN _ _ eR2 (nl _), rq _ hq1⟩, ⟨gN _ _ eR3 (nl _), rq _ hq2⟩⟩
  · rcases List.mem_cons.mp ha with rfl | ha
    · exact ⟨by rw [upd_same]; exact upd_same.symm, rx, _, upd_same, nti _⟩
    · rcases hal_subs.mp ha with rfl | rfl | rfl
      · exact ⟨by rw [eR1]; exact hH1.symm, rdx, _, hH1, no⟩
      · exact ⟨by rw [eR2]; exact hH2.symm, rq _ hq1, _, hH2, nl _⟩
      · exact ⟨by rw [eR3]; exact hH3.symm, rq _ hq2, _, hH3, nl _⟩
  · have n1 : a ≠ x := fun z => ha (z ▸ List.mem_cons_self)
    have n2 : a ≠ dx := fun z => ha (List.mem_cons_of_mem _ (hal_subs.mpr (.inl z)))
    have n3 : a ≠ q1 := fun z => ha (List.mem_cons_of_mem _ (hal_subs.mpr (.inr (.inl z))))
    have n4 : a ≠ q2 := fun z => ha (List.mem_cons_of_mem _ (hal_subs.mpr (.inr (.inr z))))
    rw [upd_ne n1, upd_ne n4, upd_ne n3, upd_ne n2]
end QL
set_option Elab.async false
set_option linter.all false
set_option maxRecDepth 100000
set_option maxHeartbeats 1000000
/-! ### __init__ of a Hall -/
namespace QL
open PySem PySem.Spec PyProof.Rows L2
section
variable {X : Cx} {k : Nat} {f C : Addr} {fd : FuncData} {F : List D → Option D} {p1 p2 p3 p4 p5 p6 p7 p8 p9 q1 q2 q3 q4 q5 q6 pos : Pos}
def tInit (K : Fr) (C : Addr) (F : List D → Option D) : TS := fun E σ H => ∃ x dx v G d r, σ[0]? = some (some (.ref x)) ∧ σ[1]? = some (some v) ∧ H x = some (.ins C dx []) ∧ Same G H ∧ Dq K G v d ∧ F [d] = some r ∧
  ∀ G' H1 q1 q2, Gr G H G' H1 → H1 q1 = none → H1 q2 = none → q2 ≠ q1 → E.nx σ (newH H1 C x dx q1 q2 v)
theorem pss_init (hC : HalC X.K C) (FO : FnOk X.prog X.w X.K X.mg X.base CX0 k f fd ["plan"] (spP X.K F 1)) (hr : Room k X.A) (hm : X.mg "need_plan" = some (.ref f)) (hk : PySem.W.keepIn X.K (.ref f) = true) (hb : Binds X.K fd ["plan"] [])
    (hN0 : X.N[0]? = some ("self" : Str)) (hN1 : X.N[1]? = some ("plan" : Str)) (v0 : Vis X.env.scope "self") (v1 : Vis X.env.scope "plan") (hg : Gl X "need_plan")
    (hs0 : swapsWith (.Call (.Name "need_plan" p1) [.Name "plan" p2] [] p3) none p4.line X.env = pure false)
    (hs1 : swapsWith (.Name "plan" p5) (some (.Attribute (.Name "self" p6) "how" p7)) p8.line X.env = pure false)
    (hs2 : swapsWith (.List [] p9) (some (.Attribute (.Name "self" q1) "past" q2)) q3.line X.env = pure false)
    (hs3 : swapsWith (.List [] q4) (some (.Attribute (.Name "self" q5) "calls" q6)) pos.line X.env = pure false)
    (he : starEach [.Name "plan" p2] X.env = (false, eval (.Name "plan" p2) X.env) :: starEach [] X.env) (hpl : (backTo p3 (starEach [] X.env)).any (·.1) = false) :
    PSs X [.Expr (.Call (.Name "need_plan" p1) [.Name "plan" p2] [] p3) p4, .Assign [.Attribute (.Name "self" p6) "how" p7] (.Name "plan" p5) p8, .Assign [.Attribute (.Name "self" q1) "past" q2] (.List [] p9) q3, .Assign [.Attribute (.Name "self" q5) "calls" q6] (.List [] q4) pos] (tInit X.K C F) := by
  refine PSs.imp (pss_cons (ps_expr (pe_call (E := fun _ _ _ => False) FO hr hg hm hk hb .nil pass0 (pa_cons (pe_var hN1 v1 (by decide) (by decide)) pa_nil he) (by decide) he hpl) hs0)
    (pss_cons (ps_fld (pe_var hN0 v0 (by decide) (by decide)) (pe_var hN1 v1 (by decide) (by decide)) hs1)
    (pss_cons (ps_fld (pe_var hN0 v0 (by decide) (by decide)) (pe_lst pa_nil) hs2) (pss_one (ps_fld (pe_var hN0 v0 (by decide) (by decide)) (pe_lst pa_nil) hs3))))) fun E σ H h => ?_
  obtain ⟨x, dx, v, G, d, r, e0, e1, hx, sG, dv, hF, w⟩ := h
  refine ⟨v, e1, rfl, G, [d], r, sG, .cons dv .nil, hF, fun G' H1 _ g _ => ?_⟩
  have hx1 : H1 x = some (.ins C dx []) := g.hh _ _ hx
  refine ⟨v, e1, .ref x, e0, x, C, dx, _, rfl, hx1, hC.cls, hC.how, by show 0 < 1000; decide, ?_⟩
  refine ⟨by decide, fun a ha => ⟨.ref x, e0, x, C, dx, putF ("how" : Str) v [], rfl, ?_, hC.cls, hC.past, by show 1 < 1000; decide, ?_⟩⟩
  · have : x ≠ a := fun z => by rw [← z, upd_same] at ha; cases ha
    rw [upd_ne this]; exact upd_same
  · have nax : a ≠ x := fun z => by rw [z, upd_same] at ha; cases ha
    have e2 : putF ("past" : Str) (V.ref a) (putF ("how" : Str) v []) = [(("how" : Str), v), (("past" : Str), V.ref a)] := rfl
    rw [e2]
    refine ⟨by decide, fun b hb => ⟨.ref x, e0, x, C, dx, [(("how" : Str), v), (("past" : Str), V.ref a)], rfl, ?_, hC.cls, hC.calls, by show 2 < 1000; decide, ?_⟩⟩
    · have : x ≠ b := fun z => by rw [← z, upd_same] at hb; cases hb
      rw [upd_ne this]; exact upd_same
    · have nbx : b ≠ x := fun z => by rw [z, upd_same] at hb; cases hb
      have nba : b ≠ a := fun z => by rw [z, upd_ne nax, upd_same] at hb; cases hb
      have e3 : putF ("calls" : Str) (V.ref b) [(("how" : Str), v), (("past" : Str), V.ref a)] = halF v a b := rfl
      rw [e3]
      refine w G' H1 a b g ?_ ?_ nba
      · rw [upd_ne nax] at ha; exact ha
      · rw [upd_ne nbx, upd_ne nba, upd_ne nbx] at hb; exact hb
end
theorem fnNew {P : Program} {w : World} {K : Fr} {mg : Str → Option Value} {base : Heap} {x qual : Str} {st : Stmt} {f C : Addr} {fd : FuncData} {k : Nat} {F : List D → Option D} (FF : Fun K x qual st f fd) (S : FnScope ["self", "plan"] ["self", "plan"] (defScope st))
    (h : ∀ (cdv : Value) (A : Around) (outer : List Env) (s : Shared) (H : Hp) (E : XK), Room k (A.deeper (envOfC qual (defScope st) s.heap.objs.size f cdv)) → PSs (cxOf CX0 P w K mg base ["self", "plan"] qual (defScope st) f cdv A outer s H E).nox (defBody st) (tInit K C F)) :
    FnOk P w K mg base CX0 (k + 1) f fd ["self", "plan"] (spNew K C F) := by
  refine FF.ok S (fun vs H Q E h => ?_) (fun cdv A outer s H vs Q E hr hsp => ⟨_, h cdv A outer s H E hr, ?_⟩)
  · obtain ⟨x, dx, v, G, d, r, rfl, _⟩ := h; rfl
  · obtain ⟨x, dx, v, G, d, r, rfl, hx, sG, dv, hF, w⟩ := hsp
    exact ⟨x, dx, v, G, d, r, rfl, rfl, hx, sG, dv, hF, fun G' H1 q1 q2 g h1 h2 n => w G' H1 q1 q2 g h1 h2 n⟩
end QL
set_option Elab.async false
set_option linter.all false
set_option maxRecDepth 100000
set_option maxHeartbeats 1000000
/-! ### len and str of a Hall, by its own methods -/
namespace QL
open PySem PySem.Spec PyProof.Rows L2
section
variable {X : Cx} {k : Nat} {f C : Addr} {fd : FuncData} {ps : List Str} {sp : Sp} {E : XK}
theorem run_at {A' : Around} {pins : List (Addr × Obj)} {σ : St} {H : Hp} {s : Shared} {Q : VK} {us : List Value} {vs : List V} (F : FnOk X.prog X.w X.K X.mg X.base CX0 k f fd ps sp) (hr : Room k A') (e0 : Env0 X.prog X.w X.K X.mg X.base A' X.stack s H) (hb : Binds X.K fd ps [])
    (I : Inv X pins σ H s) (r : Vals vs us) (h : sp vs H Q E) : wpAny (model X.prog X.w) A' (call (.ref f) us) (EP X pins σ Q) X.xe s := by
  have hl : us.length = ps.length := by rw [← r.length]; exact F.len _ _ _ _ h
  have b := hb s us I.kIn (by rw [List.append_nil]; exact hl)
  rw [List.append_nil] at b
  refine wpAny_call (codeAny_mono (F.run A' X.stack s H ⟨us, []⟩ us vs Q E hr e0 b r h) fun r s' hq => ?_)
  cases r with
  | error e => exact hq.elim
  | ok fl =>
    cases fl with
    | ret u => exact I.after hq
    | next => exact False.elim hq
    | brk => exact False.elim hq
    | cont => exact False.elim hq
theorem inst_of {pins : List (Addr × Obj)} {σ : St} {H : Hp} {s : Shared} {a dx : Addr} {fs : List (Str × V)} (I : Inv X pins σ H s) (e : H a = some (.ins C dx fs)) : ∃ ox od, PySem.W.InstAt s.heap a ox C od := by
  obtain ⟨mA, O, _⟩ := ins_get I.hok e
  obtain ⟨od, h, _⟩ := O.look
  exact ⟨_, _, h⟩
theorem len_in {K : Fr} {prog : Program} {w : World} {A : Around} {E : Value → Shared → Prop} {s : Shared} {x : Addr} {ox : Obj} {od : Option Obj} {f C : Addr} {Q : Value → Shared → Prop} (hK : K.In s.heap) (I : PySem.W.InstAt s.heap x ox C od) (hs : PySem.W.findIn K (.ref C) "__len__" = some (some (.ref f))) (hf : PySem.W.isFn K (.ref f) = true)
    (h : wpAny (model prog w) A.in1 (call (.ref f) [.ref x]) (PySem.W.LenBack Q) E s) : wpAny (model prog w) A (call (.builtin "len") [.ref x]) Q E s := by
  refine Calls.call_function_entry kind_len plain_len entry_len (args_len1 _) ?_
  unfold Builtin.«len»
  refine wpAny_bind (m := oneArg "len" _) (wpAny_pure ?_)
  refine wpAny_bind (m := callSpecial? (.ref x) (Str.ofString "__len__")) (PySem.W.special_fn hK I hs (beq_iff_eq.mp hf) (wpAny_mono h (fun r s' hr => ?_) fun _ _ y => y))
  cases r <;> first | exact hr.elim | skip
  rename_i n u
  obtain ⟨⟨h0, h1⟩, hq⟩ := hr
  refine wpAny_bind (wpAny_holding (wpAny_pure ?_))
  refine wpAny_bind (wpAny_letGo ?_)
  show wpAny _ _ (if n < 0 then _ else _) _ _ _
  rw [if_neg (by omega)]
  show wpAny _ _ (if n ≥ 2 ^ 63 then _ else _) _ _ _
  rw [if_neg (by omega)]
  exact wpAny_bind (wpAny_mkInt (wpAny_pure ⟨_, rfl, hq⟩))
def rLenH (C : Addr) (sp : Sp) : List V → Hp → VK → Prop := fun xs H Q => ∃ a dx fs, xs = [.ref a] ∧ H a = some (.ins C dx fs) ∧ sp [.ref a] H (fun v H' => ∃ n : Int, v = .int n ∧ (0 ≤ n ∧ n < 2 ^ 63) ∧ Q (.int n) H') (fun _ _ _ => False)
theorem call_lenH (hm : PySem.W.findIn X.K (.ref C) "__len__" = some (some (.ref f))) (hf : PySem.W.isFn X.K (.ref f) = true) (F : FnOk X.prog X.w X.K X.mg X.base CX0 k f fd ps sp) (hr : Room (k + 1) X.A) (hb : Binds X.K fd ps []) : CallR X (.builtin "len") (rLenH C sp) := by
  intro pins s σ H xs us Q I rel want
  obtain ⟨a, dx, fs, rfl, ha, want⟩ := want
  rw [Vals.ref1 rel]
  obtain ⟨ox, od, hi⟩ := inst_of I ha
  refine len_in I.kIn hi hm hf (wpAny_mono (run_at F hr.in1 I.env0.in1 hb I (show Vals [V.ref a] [Value.ref a] from .cons (show RelV (.ref a) (Value.ref a) from rfl) .nil) want) (fun u s' h => ?_) fun _ _ x => x)
  obtain ⟨v, H', I', rv, n, rfl, hn, q⟩ := h
  obtain ⟨t, rfl⟩ := rv
  exact ⟨hn, .int n, H', I'.tok _, ⟨_, rfl⟩, q⟩
def rStrH (C : Addr) (sp : Sp) : List V → Hp → VK → Prop := fun xs H Q => ∃ a dx fs, xs = [.ref a] ∧ H a = some (.ins C dx fs) ∧ sp [.ref a] H (fun v H' => ∃ n : Str, v = .str n ∧ Q (.str n) H') (fun _ _ _ => False)
theorem call_strH (hm : PySem.W.findIn X.K (.ref C) "__str__" = some (some (.ref f))) (hf : PySem.W.isFn X.K (.ref f) = true) (F : FnOk X.prog X.w X.K X.mg X.base CX0 k f fd ps sp) (hr : Room (k + 2) X.A) (hb : Binds X.K fd ps []) : CallR X (.type "str") (rStrH C sp) := by
  intro pins s σ H xs us Q I rel want
  obtain ⟨a, dx, fs, rfl, ha, want⟩ := want
  rw [Vals.ref1 rel]
  obtain ⟨ox, od, hi⟩ := inst_of I ha
  have hr2 : Room k X.A.in1.in1 := (show Room (k + 1) X.A.in1 from Room.in1 hr).in1
  refine PySem.W.kso_call (Nat.lt_of_le_of_lt (Nat.le_add_right _ _) (hu_of hr2)) I.kIn hi hm hf (wpAny_mono (run_at F hr2 I.env0.in1.in1 hb I (show Vals [V.ref a] [Value.ref a] from .cons (show RelV (.ref a) (Value.ref a) from rfl) .nil) want) (fun u s' h => ?_) fun _ _ x => x)
  obtain ⟨v, H', I', rv, n, rfl, q⟩ := h
  obtain ⟨t, rfl⟩ := rv
  exact ⟨.str n, H', I', ⟨_, rfl⟩, q⟩
end
def eLenH (F : List Sl → Option (D × List Sl)) (i : Nat) : M D := fun ρ => (eMeth F i yNil ρ).bind fun p => match p.1 with
  | .int n => if 0 ≤ n ∧ n < 2 ^ 63 then some (.int n, p.2) else none
  | _ => none
def eStrH (F : List Sl → Option (D × List Sl)) (i : Nat) : M D := fun ρ => (eMeth F i yNil ρ).bind fun p => match p.1 with
  | .str n => some (.str n, p.2)
  | _ => none
section
variable {X : Cx} {k : Nat} {f C : Addr} {fd : FuncData} {ps : List Str} {x : Str} {p pos p2 : Pos} {F : List Sl → Option (D × List Sl)} {n : Nat}
theorem qe_lenH (i : Nat) (hC : HalC X.K C) (hm : Meth X.K C "__len__" f) (FO : FnOk X.prog X.w X.K X.mg X.base CX0 k f fd ps (spO X.K F n)) (hr : Room (k + 1) X.A) (hb : Binds X.K fd ps []) (hl : X.mg "len" = none) (hF : FOk n F := by exact runO_ok) (hg : Gl X "len" := by rfl) (hN : X.N[i]? = some x := by rfl) (hv : Vis X.env.scope x := by first | exact Or.inl rfl | exact Or.inr (Or.inl rfl) | exact Or.inr (Or.inr rfl)) (hd : (x == ("__debug__" : Str)) = false := by decide) (hcd : (x == ("__classdict__" : Str)) = false := by decide)
    (h1 : starEach [.Name x p2] X.env = (false, eval (.Name x p2) X.env) :: starEach [] X.env := by rfl) (hpl : (backTo pos (starEach [] X.env)).any (·.1) = false := by rfl) :
    QE X (.Call (.Name "len" p) [.Name x p2] [] pos) (eLenH F i) := by
  refine PE.imp (pe_callB (call_lenH hm.at_ hm.fn FO hr hb) hg hl PySem.boot_len (pa_cons (pe_var hN hv hd hcd) pa_nil h1) (by decide) (by decide) h1 hpl) fun σ H Q h => ?_
  obtain ⟨R, G, ρ, d, ρ', rp, e, kk⟩ := h
  unfold eLenH at e
  rw [Option.bind_eq_some_iff] at e
  obtain ⟨⟨y, ρ1⟩, e1, e⟩ := e
  cases y <;> try (cases e; done)
  rename_i j
  simp only at e
  split at e
  · rename_i hj
    cases e
    obtain ⟨v, ev, a, dx, fs, e2, e3, e4, R', G', ρ'', as, ρ2, rp', e5, w⟩ := meth_read (X := X) (C := C) (mn := "__len__") (n := n) (E := fun _ _ _ _ => False) (Q := fun v H' => ∃ n : Int, v = .int n ∧ (0 ≤ n ∧ n < 2 ^ 63) ∧ Q (.int n) H') hC (by decide) hF ⟨R, G, ρ, _, _, rp, e1, fun G1 H1 v1 s1 r1 d1 => by cases d1; exact ⟨j, rfl, hj, kk G1 H1 _ s1 r1 (.int _)⟩⟩
    cases e5
    subst e2
    exact ⟨.ref a, ev, a, dx, fs, rfl, e3, w G' H [] (.refl _) rp' .nil⟩
  · cases e
theorem qe_strH (i : Nat) (hC : HalC X.K C) (hm : Meth X.K C "__str__" f) (FO : FnOk X.prog X.w X.K X.mg X.base CX0 k f fd ps (spO X.K F n)) (hr : Room (k + 2) X.A) (hb : Binds X.K fd ps []) (hl : X.mg "str" = none) (hF : FOk n F := by exact runO_ok) (hg : Gl X "str" := by rfl) (hN : X.N[i]? = some x := by rfl) (hv : Vis X.env.scope x := by first | exact Or.inl rfl | exact Or.inr (Or.inl rfl) | exact Or.inr (Or.inr rfl)) (hd : (x == ("__debug__" : Str)) = false := by decide) (hcd : (x == ("__classdict__" : Str)) = false := by decide)
    (h1 : starEach [.Name x p2] X.env = (false, eval (.Name x p2) X.env) :: starEach [] X.env := by rfl) (hpl : (backTo pos (starEach [] X.env)).any (·.1) = false := by rfl) :
    QE X (.Call (.Name "str" p) [.Name x p2] [] pos) (eStrH F i) := by
  refine PE.imp (pe_callTy (T := "str") (call_strH hm.at_ hm.fn FO hr hb) hg hl rfl (pa_cons (pe_var hN hv hd hcd) pa_nil h1) (by decide) (by decide) h1 hpl) fun σ H Q h => ?_
  obtain ⟨R, G, ρ, d, ρ', rp, e, kk⟩ := h
  unfold eStrH at e
  rw [Option.bind_eq_some_iff] at e
  obtain ⟨⟨y, ρ1⟩, e1, e⟩ := e
  cases y <;> try (cases e; done)
  rename_i j
  cases e
  obtain ⟨v, ev, a, dx, fs, e2, e3, e4, R', G', ρ'', as, ρ2, rp', e5, w⟩ := meth_read (X := X) (C := C) (mn := "__str__") (n := n) (E := fun _ _ _ _ => False) (Q := fun v H' => ∃ n : Str, v = .str n ∧ Q (.str n) H') hC (by decide) hF ⟨R, G, ρ, _, _, rp, e1, fun G1 H1 v1 s1 r1 d1 => by cases d1; exact ⟨j, rfl, kk G1 H1 _ s1 r1 (.str _)⟩⟩
  cases e5
  subst e2
  exact ⟨.ref a, ev, a, dx, fs, rfl, e3, w G' H [] (.refl _) rp' .nil⟩
end
end QL
set_option Elab.async false
set_option linter.all false
set_option maxRecDepth 100000
set_option maxHeartbeats 1000000
/-! ### == by the own __eq__ of a Hall -/
namespace QL
open PySem PySem.Spec PyProof.Rows L2
def notNI : V → Prop
  | .bl _ => True
  | _ => False
/-- x == y, x a Hall, y a Hall or a text -/
def rEqH (C : Addr) (sp : Sp) : R2 := fun x y H Q => ∃ a dx fs, x = .ref a ∧ H a = some (.ins C dx fs) ∧ ((∃ b dy gs, y = .ref b ∧ H b = some (.ins C dy gs)) ∨ ∃ t, y = .str t) ∧ sp [x, y] H (fun v H' => ∃ b, v = .bl b ∧ Q (.bl b) H') (fun _ _ _ => False)
theorem op_eqH {X : Cx} {k : Nat} {f C : Addr} {fd : FuncData} {ps : List Str} {sp : Sp} (hs : PySem.W.findIn X.K (.ref C) "__eq__" = some (some (.ref f))) (hf : PySem.W.isFn X.K (.ref f) = true) (hn : PySem.W.subIn X.K (.type "str") (.ref C) = some false) (F : FnOk X.prog X.w X.K X.mg X.base CX0 k f fd ps sp) (hr : Room k X.A) (hb : Binds X.K fd ps []) : OpR X (compareOp .Eq) (rEqH C sp) := by
  intro pins s σ H x y v u Q I rx ry h
  obtain ⟨a, dx, fs, rfl, ha, hy, want⟩ := h
  obtain rfl : v = Value.ref a := rx
  show wpAny (model X.prog X.w) X.A (richCompare .Eq (.ref a) u) (EP X pins σ Q) X.xe s
  obtain ⟨mA, J, _⟩ := ins_get I.hok ha
  obtain ⟨od, J, _⟩ := J.look
  obtain ⟨m, hF⟩ := I.fr
  have key : wpAny (model X.prog X.w) X.A (call (.ref f) [.ref a, u]) (PySem.W.CmpBack (EP X pins σ Q)) X.xe s := by
    refine wpAny_mono (run_at F hr I.env0 hb I (show Vals [V.ref a, y] [Value.ref a, u] from .cons (show RelV (.ref a) (Value.ref a) from rfl) (.cons ry .nil)) want) (fun u s' h => ?_) fun _ _ x => x
    obtain ⟨v, H', I', rv, b, rfl, q⟩ := h
    cases rv
    exact ⟨.bl b, H', I', rfl, q⟩
  rcases hy with ⟨b, dy, gs, rfl, hb'⟩ | ⟨t, rfl⟩
  · obtain rfl : u = Value.ref b := ry
    obtain ⟨mB, J', _⟩ := ins_get I.hok hb'
    obtain ⟨od', J', _⟩ := J'.look
    exact PySem.W.cmp_K (op := .Eq) (tb := .ref C) hr.units0 hF I.ok.mod.kin J J'.type (by simp [PySem.W.notFirst]) hs hf key
  · obtain ⟨tk, rfl⟩ := ry
    exact PySem.W.cmp_K (op := .Eq) (tb := .type "str") hr.units0 hF I.ok.mod.kin J (fun _ _ _ _ _ q => wpAny_pure q) (by simp [PySem.W.notFirst, hn]) hs hf key
/-- x == y, two Halls of one's own -/
def eEqHV (F : List Sl → Option (D × List Sl)) (i j : Nat) : M D := fun ρ => (halS ρ i).bind fun _ => (halS ρ j).bind fun _ => (eAppO F (fun ρ => some ([.var i, .var j], ρ)) ρ).bind fun p => match p.1 with
  | .bool b => some (.bool b, p.2)
  | _ => none
/-- x == e, e a text -/
def eEqHS (F : List Sl → Option (D × List Sl)) (i : Nat) (m : M D) : M D := fun ρ => (halS ρ i).bind fun _ => (m ρ).bind fun q => match q.1 with
  | .str t => (halS q.2 i).bind fun _ => (eAppO F (fun ρ => some ([.var i, .dat (.str t)], ρ)) q.2).bind fun p => match p.1 with
    | .bool b => some (.bool b, p.2)
    | _ => none
  | _ => none
theorem hand_read {K : Fr} {R G H : Hp} {ρ ρ' : Ro} {σ : St} {as : List Ar} {vs : List V} {F : List Sl → Option (D × List Sl)} {n : Nat} {d : D} {Q : VK} {E : XK} (rp : Rep K R G H ρ σ) (hF : FOk n F) (da : ArAll K G σ vs as) (e : eAppO F (fun ρ => some (as, ρ)) ρ = some (d, ρ')) (k : ∀ G' H' v, Same G G' → Rep K R G' H' ρ' σ → Dq K G' v d → Q v H') : spO K F n vs H Q E := by
  unfold eAppO at e
  rw [Option.bind_eq_some_iff] at e
  obtain ⟨⟨as', ρ1⟩, h1, e⟩ := e
  cases h1
  simp only at e
  split at e
  · rename_i nd
    rw [Option.map_eq_some_iff] at e
    obtain ⟨⟨d', ss'⟩, h2, e⟩ := e
    cases e
    refine ⟨by rw [da.length, ← hF.len _ _ h2, List.length_map], ?_⟩
    obtain ⟨Rc, rep, back⟩ := rp.hand nd da
    exact ⟨Rc, G, _, d', ss', rep, h2, fun G2 H2 v s2 r2 dv => k G2 H2 v s2 (back G2 H2 ss' s2 r2) dv⟩
  · cases e
section
variable {X : Cx} {k : Nat} {f C : Addr} {fd : FuncData} {ps : List Str} {x y : Str} {p pos p2 : Pos} {F : List Sl → Option (D × List Sl)} {n : Nat}
theorem qe_eqHV (i j : Nat) (hC : HalC X.K C) (hm : Meth X.K C "__eq__" f) (hs : PySem.W.subIn X.K (.type "str") (.ref C) = some false) (FO : FnOk X.prog X.w X.K X.mg X.base CX0 k f fd ps (spO X.K F n)) (hr : Room k X.A) (hb : Binds X.K fd ps []) (hF : FOk n F := by exact runO_ok) (hN : X.N[i]? = some x := by rfl) (hv : Vis X.env.scope x := by first | exact Or.inl rfl | exact Or.inr (Or.inl rfl) | exact Or.inr (Or.inr rfl)) (hd : (x == ("__debug__" : Str)) = false := by decide) (hcd : (x == ("__classdict__" : Str)) = false := by decide)
    (hN2 : X.N[j]? = some y := by rfl) (hv2 : Vis X.env.scope y := by first | exact Or.inl rfl | exact Or.inr (Or.inl rfl) | exact Or.inr (Or.inr rfl)) (hd2 : (y == ("__debug__" : Str)) = false := by decide) (hcd2 : (y == ("__classdict__" : Str)) = false := by decide) :
    QE X (.Compare (.Name x p) [.Eq] [.Name y p2] pos) (eEqHV F i j) := by
  refine PE.imp (pe_cmpR (op_eqH hm.at_ hm.fn hs FO hr hb) (pe_var hN hv hd hcd) (pe_var hN2 hv2 hd2 hcd2) (nomark _)) fun σ H Q h => ?_
  obtain ⟨R, G, ρ, d, ρ', rp, e, kk⟩ := h
  unfold eEqHV at e
  rw [Option.bind_eq_some_iff] at e
  obtain ⟨⟨a0, b0, c0⟩, h0, e⟩ := e
  rw [Option.bind_eq_some_iff] at e
  obtain ⟨⟨a1, b1, c1⟩, h1, e⟩ := e
  rw [Option.bind_eq_some_iff] at e
  obtain ⟨⟨z, ρ1⟩, h2, e⟩ := e
  cases z <;> try (cases e; done)
  rename_i b
  cases e
  obtain ⟨pa, dx, vh, q, r, ps, cs, ep, Y⟩ := rp.halAt hC (halS_some h0)
  obtain ⟨pb, dy, vh', q', r', ps', cs', ep', Y'⟩ := rp.halAt hC (halS_some h1)
  exact ⟨.ref pa, ep, .ref pb, ep', pa, dx, _, rfl, Y.at_, .inl ⟨pb, dy, _, rfl, Y'.at_⟩, hand_read rp hF (.var ep (.var ep' .nil)) h2 fun G' H' v s r dv => by cases dv; exact ⟨b, rfl, kk G' H' _ s r (.bl _)⟩⟩
theorem qe_eqHS (i : Nat) {e : Expr} {m : M D} (hC : HalC X.K C) (hm : Meth X.K C "__eq__" f) (hs : PySem.W.subIn X.K (.type "str") (.ref C) = some false) (FO : FnOk X.prog X.w X.K X.mg X.base CX0 k f fd ps (spO X.K F n)) (hr : Room k X.A) (hb : Binds X.K fd ps []) (he : QE X e m) (hF : FOk n F := by exact runO_ok) (hN : X.N[i]? = some x := by rfl) (hv : Vis X.env.scope x := by first | exact Or.inl rfl | exact Or.inr (Or.inl rfl) | exact Or.inr (Or.inr rfl)) (hd : (x == ("__debug__" : Str)) = false := by decide) (hcd : (x == ("__classdict__" : Str)) = false := by decide) :
    QE X (.Compare (.Name x p) [.Eq] [e] pos) (eEqHS F i m) := by
  refine PE.imp (pe_cmpR (op_eqH hm.at_ hm.fn hs FO hr hb) (pe_var hN hv hd hcd) he (nomark _)) fun σ H Q h => ?_
  obtain ⟨R, G, ρ, d, ρ', rp, e, kk⟩ := h
  unfold eEqHS at e
  rw [Option.bind_eq_some_iff] at e
  obtain ⟨⟨a0, b0, c0⟩, h0, e⟩ := e
  rw [Option.bind_eq_some_iff] at e
  obtain ⟨⟨w, ρ0⟩, h1, e⟩ := e
  cases w <;> try (cases e; done)
  rename_i t
  simp only at e
  rw [Option.bind_eq_some_iff] at e
  obtain ⟨⟨a1, b1, c1⟩, h3, e⟩ := e
  rw [Option.bind_eq_some_iff] at e
  obtain ⟨⟨z, ρ1⟩, h2, e⟩ := e
  cases z <;> try (cases e; done)
  rename_i b
  cases e
  obtain ⟨pa, dx, vh, q, r, ps, cs, ep, Y⟩ := rp.halAt hC (halS_some h0)
  refine ⟨.ref pa, ep, R, G, ρ, _, ρ0, rp, h1, fun G1 H1 v1 s1 r1 d1 => ?_⟩
  cases d1
  obtain ⟨pb, dy, vh', q', r', ps', cs', ep', Y'⟩ := r1.halAt hC (halS_some h3)
  rw [ep] at ep'
  cases ep'
  exact ⟨pa, dy, _, rfl, Y'.at_, .inr ⟨t, rfl⟩, hand_read r1 hF (.var ep (.dat (.str t) .nil)) h2 fun G' H' v s r dv => by cases dv; exact ⟨b, rfl, kk G' H' _ (s1.trans s) r (.bl _)⟩⟩
end
end QL
set_option Elab.async false
set_option linter.all false
set_option maxRecDepth 100000
set_option maxHeartbeats 1000000
/-! ### isinstance(x, Hall) -/
namespace QL
open PySem PySem.Spec PyProof.Rows L2 C8
def eIsHal (j : Nat) : M D := fun ρ => match ρ[j]? with
  | some (.own (.hal _ _ _)) => some (.bool true, ρ)
  | some (.dat (.str _)) => some (.bool false, ρ)
  | _ => none
def rIsH (C : Addr) : List V → Hp → VK → Prop := fun xs H Q => ∃ y, xs = [y, .ref C] ∧ ((∃ a dx fs, y = .ref a ∧ H a = some (.ins C dx fs) ∧ Q (.bl true) H) ∨ ∃ t, y = .str t ∧ Q (.bl false) H)
theorem call_isH {X : Cx} {C : Addr} (c : InsC X.K C) (hs : PySem.W.kitOne X.K (.type "str") (.ref C) = some false) : CallR X (.builtin "isinstance") (rIsH C) := by
  intro pins s σ H xs us Q I r h
  obtain ⟨y, rfl, h⟩ := h
  rcases h with ⟨a, dx, fs, rfl, ha, q⟩ | ⟨t, rfl, q⟩
  · exact call_isC c pins s σ H _ us Q I r ⟨a, dx, fs, rfl, ha, q⟩
  · obtain ⟨u, w', rfl, ru, rw'⟩ := vals2 r
    cases rw'
    obtain ⟨tk, rfl⟩ := ru
    exact PySem.W.kia_one PySem.W.kitx_str I.kIn trivial hs (fun z => nomatch z) fun tk => ⟨.bl false, H, I.tok _, rfl, q⟩
theorem qe_isHal {X : Cx} {C : Addr} {x : Str} {p pos p1 p2 : Pos} (j : Nat) (hC : HalC X.K C) (c : InsC X.K C) (hs : PySem.W.kitOne X.K (.type "str") (.ref C) = some false) (hm : X.mg "isinstance" = none) (hH : X.mg "Hall" = some (.ref C)) (hN : X.N[j]? = some x := by rfl) (hv : Vis X.env.scope x := by first | exact Or.inl rfl | exact Or.inr (Or.inl rfl) | exact Or.inr (Or.inr rfl)) (hd : (x == ("__debug__" : Str)) = false := by decide) (hcd : (x == ("__classdict__" : Str)) = false := by decide) (hg : Gl X "isinstance" := by rfl) (hg2 : Gl X "Hall" := by rfl)
    (h1 : starEach [.Name "Hall" p2] X.env = (false, eval (.Name "Hall" p2) X.env) :: starEach [] X.env := by rfl) (h2 : starEach [.Name x p1, .Name "Hall" p2] X.env = (false, eval (.Name x p1) X.env) :: starEach [.Name "Hall" p2] X.env := by rfl) (hpl : (backTo pos (starEach [.Name "Hall" p2] X.env)).any (·.1) = false := by rfl) :
    QE X (.Call (.Name "isinstance" p) [.Name x p1, .Name "Hall" p2] [] pos) (eIsHal j) := by
  refine PE.imp (pe_callB (call_isH c hs) hg hm (by decide +kernel) (pa_cons (pe_var hN hv hd hcd) (pa_cons (pe_glob (v := .ref C) hg2 hH rfl (by decide)) pa_nil h1) h2) (by decide) (by decide) h2 hpl) fun σ H Q h => ?_
  obtain ⟨R, G, ρ, d, ρ', rp, e, kk⟩ := h
  unfold eIsHal at e
  split at e
  · rename_i a b cc hsl
    cases e
    obtain ⟨pa, dx, vh, q, r, ps, cs, ep, Y⟩ := rp.halAt hC hsl
    exact ⟨.ref pa, ep, .ref pa, rfl, .inl ⟨pa, dx, _, rfl, Y.at_, kk G H _ (.refl _) rp (.bl _)⟩⟩
  · rename_i t hsl
    cases e
    obtain ⟨v, ev, dv⟩ := rp.slot j _ hsl
    cases dv
    exact ⟨.str t, ev, .str t, rfl, .inr ⟨t, rfl, kk G H _ (.refl _) rp (.bl _)⟩⟩
  · cases e
end QL
set_option Elab.async false
set_option linter.all false
set_option maxRecDepth 100000
set_option maxHeartbeats 1000000
/-! ### texts -/
namespace QL
open PySem PySem.Spec PyProof.Rows L2
def dStrI : List D → Option D
  | [.int i] => if i.natAbs.log2 < 1920 then some (.str (toString i)) else none
  | _ => none
theorem d_strI {K : Fr} : CallD K (fun xs H Q => ∃ i : Int, xs = [.int i] ∧ i.natAbs.log2 < 1920 ∧ Q (.str (toString i)) H) dStrI := by
  intro G H vs ds d Q s h e k
  unfold dStrI at e
  split at e
  · split at e
    · rename_i hl
      cases e
      obtain ⟨v, rfl, hd⟩ := one_of h
      cases hd
      exact ⟨_, rfl, hl, k G H _ (Gr.refl s) (.str _)⟩
    · cases e
  · cases e
def strsOf : List D → Option (List Str)
  | [] => some []
  | .str b :: ds => (strsOf ds).map fun bs => b :: bs
  | _ :: _ => none
theorem strs_of {K : Fr} {G : Hp} : ∀ {vs : List V} {ds : List D} {ys : List Str}, DqAll K G vs ds → strsOf ds = some ys → vs = ys.map V.str
  | [], [], ys, _, h => by cases h; rfl
  | v :: vs, d :: ds, ys, h, e => by
    cases h with
    | cons a r =>
      cases d with
      | str b =>
        unfold strsOf at e
        rw [Option.map_eq_some_iff] at e
        obtain ⟨cs, h1, h2⟩ := e
        subst h2
        cases a
        rw [strs_of r h1]
        rfl
      | _ => cases e
def eJoin (a b : M D) : M D := fun ρ => (a ρ).bind fun p => match p.1 with
  | .str s => (b p.2).bind fun q => match q.1 with
    | .list ds => (strsOf ds).bind fun ys => if (ys.map (·.length)).sum + ys.length * s.length ≤ 16777216 then some (.str (Txt.join s ys), q.2) else none
    | _ => none
  | _ => none
theorem qe_join {X : Cx} {o a : Expr} {apos cpos : Pos} {m n : M D} (ho : QE X o m) (ha : QE X a n)
    (hbase : attributeBase o "join" X.env (eval o X.env) = eval o X.env := by rfl)
    (hfew : ((backTo cpos (starEach [a] X.env)).all (fun x => !x.1) && (backToKw cpos (keywordEach [] X.env)).all (fun x => x.1.isSome)
      && decide ([a].length + ([] : List Keyword).length + (if ([] : List Keyword).isEmpty then 0 else 1) < 30)) = true := by rfl)
    (hline : (apos.endLine == cpos.line) = true := by rfl) (hs : starEach [a] X.env = (false, eval a X.env) :: starEach [] X.env := by rfl) (hplain : (backTo cpos (starEach [] X.env)).any (·.1) = false := by rfl) :
    QE X (.Call (.Attribute o "join" apos) [a] [] cpos) (eJoin m n) := by
  refine PE.imp (pe_bm PySem.F.plainAttrs_str PySem.F.slot_str_join PySem.F.type_str_join mt_join ho (pa_cons ha pa_nil hs) hbase hfew hline hs hplain) fun σ H Q h => ?_
  obtain ⟨R, G, ρ, d, ρ', rp, e, k⟩ := h
  unfold eJoin at e
  rw [Option.bind_eq_some_iff] at e
  obtain ⟨⟨y, ρ1⟩, h1, e⟩ := e
  cases y <;> try (cases e; done)
  rename_i s
  simp only at e
  rw [Option.bind_eq_some_iff] at e
  obtain ⟨⟨z, ρ2⟩, h2, e⟩ := e
  cases z <;> try (cases e; done)
  rename_i ds
  simp only at e
  rw [Option.bind_eq_some_iff] at e
  obtain ⟨ys, h3, e⟩ := e
  split at e
  · rename_i hl
    cases e
    refine ⟨R, G, ρ, _, ρ1, rp, h1, fun G1 H1 v1 s1 r1 d1 => ?_⟩
    cases d1
    refine ⟨rfl, R, G1, ρ1, _, _, r1, h2, fun G2 H2 v2 s2 r2 d2 => ?_⟩
    cases d2 with
    | lst hq dv =>
      rw [strs_of dv h3] at hq
      exact ⟨s, _, ys, rfl, rfl, .inl (SqL.of (r2.subG _ _ hq)), hl, k G2 H2 _ (s1.trans s2) r2 (.str _)⟩
  · cases e
end QL
set_option Elab.async false
set_option linter.all false
set_option maxRecDepth 100000
set_option maxHeartbeats 1000000
/-! ### x == e, e a Hall made on the spot -/
namespace QL
open PySem PySem.Spec PyProof.Rows L2
theorem Rep.cut {K : Fr} {R G H : Hp} {ρ : Ro} {σ : St} {t : Sl} {o : Option V} (r : Rep K R G H (ρ ++ [t]) (σ ++ [o])) : Rep K R G H ρ σ := by
  have hl : ρ.length = σ.length := by simpa using r.len
  have at1 : ∀ {i : Nat} {s : Sl}, ρ[i]? = some s → (ρ ++ [t])[i]? = some s ∧ (σ ++ [o])[i]? = σ[i]? := fun {i s} h => by
    have hi := (List.getElem?_eq_some_iff.mp h).1
    exact ⟨by rw [List.getElem?_append_left hi]; exact h, by rw [List.getElem?_append_left (by rw [← hl]; exact hi)]⟩
  refine ⟨hl, r.subR, r.subG, r.dis, fun i s h => ?_, fun i j c c' p h1 h2 h3 h4 => ?_⟩
  · obtain ⟨a, b⟩ := at1 h
    have := r.slot i s a
    rw [b] at this
    exact this
  · obtain ⟨a, b⟩ := at1 h1
    obtain ⟨a', b'⟩ := at1 h2
    exact r.apart i j c c' p a a' (by rw [b]; exact h3) (by rw [b']; exact h4)
def eEqHO (F : List Sl → Option (D × List Sl)) (i : Nat) (m : M Ow) : M D := fun ρ => (halS ρ i).bind fun _ => (m ρ).bind fun q => (halS q.2 i).bind fun _ => (halS (q.2 ++ [.own q.1]) q.2.length).bind fun _ =>
  (eAppO F (fun ρ => some ([.var i, .var q.2.length], ρ)) (q.2 ++ [.own q.1])).bind fun p => match p.1 with
    | .bool b => if p.2.length = q.2.length + 1 then some (.bool b, p.2.dropLast) else none
    | _ => none
theorem qe_eqHO {X : Cx} {k : Nat} {f C : Addr} {fd : FuncData} {ps : List Str} {x : Str} {p pos : Pos} {F : List Sl → Option (D × List Sl)} {n : Nat} (i : Nat) {e : Expr} {m : M Ow} (hC : HalC X.K C) (hm : Meth X.K C "__eq__" f) (hs : PySem.W.subIn X.K (.type "str") (.ref C) = some false) (FO : FnOk X.prog X.w X.K X.mg X.base CX0 k f fd ps (spO X.K F n)) (hr : Room k X.A) (hb : Binds X.K fd ps []) (he : QO X e m) (hF : FOk n F := by exact runO_ok) (hN : X.N[i]? = some x := by rfl) (hv : Vis X.env.scope x := by first | exact Or.inl rfl | exact Or.inr (Or.inl rfl) | exact Or.inr (Or.inr rfl)) (hd : (x == ("__debug__" : Str)) = false := by decide) (hcd : (x == ("__classdict__" : Str)) = false := by decide) :
    QE X (.Compare (.Name x p) [.Eq] [e] pos) (eEqHO F i m) := by
  refine PE.imp (pe_cmpR (op_eqH hm.at_ hm.fn hs FO hr hb) (pe_var hN hv hd hcd) he (nomark _)) fun σ H Q h => ?_
  obtain ⟨R, G, ρ, d, ρ', rp, e, kk⟩ := h
  unfold eEqHO at e
  rw [Option.bind_eq_some_iff] at e
  obtain ⟨⟨a0, b0, c0⟩, h0, e⟩ := e
  rw [Option.bind_eq_some_iff] at e
  obtain ⟨⟨c, ρ0⟩, h1, e⟩ := e
  rw [Option.bind_eq_some_iff] at e
  obtain ⟨⟨a1, b1, c1⟩, h3, e⟩ := e
  rw [Option.bind_eq_some_iff] at e
  obtain ⟨⟨a2, b2, c2⟩, h4, e⟩ := e
  rw [Option.bind_eq_some_iff] at e
  obtain ⟨⟨z, ρ1⟩, h2, e⟩ := e
  cases z <;> try (cases e; done)
  rename_i b
  simp only at e
  split at e
  · rename_i hlen
    cases e
    obtain ⟨pa, dx, vh, q, r, ps, cs, ep, Y⟩ := rp.halAt hC (halS_some h0)
    refine ⟨.ref pa, ep, R, G, ρ, _, ρ0, rp, h1, fun G1 H1 pb s1 r1 => ?_⟩
    have hl : ρ0.length = σ.length := by simpa using r1.len
    have hi : i < ρ0.length := (List.getElem?_eq_some_iff.mp (halS_some h3)).1
    have e3 : (ρ0 ++ [Sl.own c])[i]? = some (.own (.hal a1 b1 c1)) := by rw [List.getElem?_append_left hi]; exact halS_some h3
    have eσ : (σ ++ [some (V.ref pb)])[i]? = some (some (.ref pa)) := by rw [List.getElem?_append_left (by rw [← hl]; exact hi)]; exact ep
    have eσ2 : (σ ++ [some (V.ref pb)])[ρ0.length]? = some (some (.ref pb)) := by rw [hl]; simp
    obtain ⟨pa', dy, vh', q', r', ps', cs', ep', Y'⟩ := r1.halAt hC e3
    rw [eσ] at ep'
    cases ep'
    obtain ⟨pb', dz, vh2, q2, r2, ps2, cs2, ep2, Y2⟩ := r1.halAt hC (halS_some h4)
    rw [eσ2] at ep2
    cases ep2
    refine ⟨pa, dy, _, rfl, Y'.at_, .inl ⟨pb, dz, _, rfl, Y2.at_⟩, hand_read r1 hF (.var eσ (.var eσ2 .nil)) h2 fun G' H' v s r dv => ?_⟩
    cases dv
    refine ⟨b, rfl, kk G' H' _ (s1.trans s) ?_ (.bl _)⟩
    have hne : ρ1 ≠ [] := fun z => by rw [z] at hlen; simp at hlen
    have es : ρ1 = ρ1.dropLast ++ [ρ1.getLast hne] := (List.dropLast_concat_getLast hne).symm
    rw [es] at r
    exact r.cut
  · cases e
end QL
set_option Elab.async false
set_option linter.all false
set_option maxRecDepth 100000
set_option maxHeartbeats 4000000
namespace QP
open PySem PySem.Spec PyProof.Rows L2 QL
def topS (i : Nat) : Stmt := PySem.Challenge.pw_roomhalls_k32_halls_refused.main.body.getD i (.Pass ⟨0, 0, 0, 0⟩)
def mthS (i j : Nat) : Stmt := match topS i with
  | .ClassDef _ _ _ body _ _ _ _ _ _ _ => body.getD j (.Pass ⟨0, 0, 0, 0⟩)
  | s => s
def HasM (P : Program) (w : World) (K : QL.Fr) (mg : Str → Option Value) (base : Heap) (name : Str) (k : Nat) (ps : List Str) (sp : Sp) : Prop := ∃ C f fd, Mk K C f ∧ FnOk P w K mg base (L2.CX P w) k f fd ps sp ∧ mg name = some (.ref C) ∧ Binds K fd ps []
def DefM (K : QL.Fr) (mg : Str → Option Value) (name qual : Str) (st : Stmt) (ps : List Str) : Prop := ∃ C f fd, Mk K C f ∧ Fun K "__init__" qual st f fd ∧ mg name = some (.ref C) ∧ Binds K fd ps []
def Has (P : Program) (w : World) (K : QL.Fr) (mg : Str → Option Value) (base : Heap) (name : Str) (k : Nat) (ps : List Str) (sp : Sp) : Prop := ∃ f fd, FnOk P w K mg base CX0 k f fd ps sp ∧ mg name = some (.ref f) ∧ PySem.W.keepIn K (.ref f) = true ∧ Binds K fd ps []
def HasE (P : Program) (w : World) (K : QL.Fr) (mg : Str → Option Value) (base : Heap) (name : Str) (k : Nat) (ps : List Str) (sp : Sp) : Prop := ∃ f fd, FnOk P w K mg base (L2.CX P w) k f fd ps sp ∧ mg name = some (.ref f) ∧ PySem.W.keepIn K (.ref f) = true ∧ Binds K fd ps []
abbrev veM : List Value := [.type "ValueError", .type "Exception", .type "BaseException", .type "object"]
def cmOf (mg : Str → Option Value) (y : Str) : Value := (mg y).getD .none
def kinds : List Str := ["NoPlan", "NoLevels", "NoWidths", "NoBeam", "NoRoom", "NoProportion", "Parted", "NoNest", "NoText", "Nothing"]
def whTt (z y : Str) : Bool := decide (y = z)
structure WhOk (K : QL.Fr) (mg : Str → Option Value) (z : Str) : Prop where
  ex : ∃ C, cmOf mg z = .ref C ∧ ExcC K C ∧ PySem.W.kitOne K (.ref C) (.type "ValueError") = some true ∧ ∀ y ∈ kinds, ∃ D, mg y = some (.ref D) ∧ PySem.W.kitOne K (.ref C) (.ref D) = some (whTt z y)
def Def (K : QL.Fr) (mg : Str → Option Value) (name py : Str) (st : Stmt) (ps : List Str) : Prop := ∃ f fd, Fun K py py st f fd ∧ mg name = some (.ref f) ∧ Binds K fd ps []
def hA (K : QL.Fr) : Addr := match PySem.W.nsIn K mainGlobals "Hall" with
  | some (some (.ref C)) => C
  | _ => 0
structure HalT (K : QL.Fr) (mg : Str → Option Value) : Prop where
  cls : HalC K (hA K)
  ins : C8.InsC K (hA K)
  kit : PySem.W.kitOne K (.type "str") (.ref (hA K)) = some false
  sub : PySem.W.subIn K (.type "str") (.ref (hA K)) = some false
  mg : mg "Hall" = some (.ref (hA K))
def HasMt (P : Program) (w : World) (K : QL.Fr) (mg : Str → Option Value) (base : Heap) (m : Str) (k : Nat) (ps : List Str) (sp : Sp) : Prop := ∃ f fd, Meth K (hA K) m f ∧ FnOk P w K mg base CX0 k f fd ps sp ∧ Binds K fd ps []
def HasMtX (P : Program) (w : World) (K : QL.Fr) (mg : Str → Option Value) (base : Heap) (m : Str) (k : Nat) (ps : List Str) (sp : Sp) : Prop := ∃ f fd, Meth K (hA K) m f ∧ FnOk P w K mg base (L2.CX P w) k f fd ps sp ∧ Binds K fd ps []
def HasNew (P : Program) (w : World) (K : QL.Fr) (mg : Str → Option Value) (base : Heap) (m : Str) (k : Nat) (ps : List Str) (sp : Sp) : Prop := ∃ f fd, Mk K (hA K) f ∧ FnOk P w K mg base CX0 k f fd ps sp ∧ Binds K fd ps []
def DefMt (K : QL.Fr) (mg : Str → Option Value) (m qual : Str) (st : Stmt) (ps : List Str) : Prop := ∃ f fd, Meth K (hA K) m f ∧ Fun K m qual st f fd ∧ Binds K fd ps []
def DefNew (K : QL.Fr) (mg : Str → Option Value) (m qual : Str) (st : Stmt) (ps : List Str) : Prop := ∃ f fd, Mk K (hA K) f ∧ Fun K m qual st f fd ∧ Binds K fd ps []
structure Txt (K : QL.Fr) (mg : Str → Option Value) : Prop where
  b_len : mg "len" = none
  b_abs : mg "abs" = none
  b_range : mg "range" = none
  b_zip : mg "zip" = none
  b_enumerate : mg "enumerate" = none
  b_all : mg "all" = none
  b_any : mg "any" = none
  b_isinstance : mg "isinstance" = none
  b_tuple : mg "tuple" = none
  b_list : mg "list" = none
  b_int : mg "int" = none
  b_str : mg "str" = none
  b_bool : mg "bool" = none
  b_min : mg "min" = none
  b_max : mg "max" = none
  b_sum : mg "sum" = none
  b_sorted : mg "sorted" = none
  b_set : mg "set" = none
  b_ValueError : mg "ValueError" = none
  g_NOUGHT : GlobD K mg "NOUGHT" (.tuple [(.int 0), (.int 1)])
  g_ONE : GlobD K mg "ONE" (.tuple [(.int 1), (.int 1)])
  g_BEAMS : GlobD K mg "BEAMS" (.int 6)
  g_ROOMS : GlobD K mg "ROOMS" (.int 15)
  c_NoPlan : ClsOk K mg (cmOf mg) veM "ValueError.__new__" "NoPlan"
  c_NoProportion : ClsOk K mg (cmOf mg) veM "ValueError.__new__" "NoProportion"
  c_NoRoom : ClsOk K mg (cmOf mg) veM "ValueError.__new__" "NoRoom"
  c_Nothing : ClsOk K mg (cmOf mg) veM "ValueError.__new__" "Nothing"
  c_Parted : ClsOk K mg (cmOf mg) veM "ValueError.__new__" "Parted"
  n_RoomError : mg "RoomError" = some (cmOf mg "RoomError")
  x_NoPlan_RoomError : PySem.W.exmOne K (cmOf mg "NoPlan") (cmOf mg "RoomError") = some true
  x_NoProportion_RoomError : PySem.W.exmOne K (cmOf mg "NoProportion") (cmOf mg "RoomError") = some true
  x_NoRoom_RoomError : PySem.W.exmOne K (cmOf mg "NoRoom") (cmOf mg "RoomError") = some true
  x_Nothing_RoomError : PySem.W.exmOne K (cmOf mg "Nothing") (cmOf mg "RoomError") = some true
  x_Parted_RoomError : PySem.W.exmOne K (cmOf mg "Parted") (cmOf mg "RoomError") = some true
  w_NoPlan : WhOk K mg "NoPlan"
  w_NoRoom : WhOk K mg "NoRoom"
  w_NoProportion : WhOk K mg "NoProportion"
  w_Parted : WhOk K mg "Parted"
  w_Nothing : WhOk K mg "Nothing"
  hal : HalT K mg
section
variable {P : Program} {w : World} {K : QL.Fr} {mg : Str → Option Value} {base : Heap}
def slotI (ρ : Ro) (i : Nat) : Int := match ρ[i]? with
  | some (Sl.dat (PyData.int n)) => n
  | _ => 0
def fu_common (ρ : Ro) : Nat := (slotI ρ 1).natAbs + 1
def fu__law_both (ρ : Ro) : Nat := (slotI ρ 1).natAbs + 1
def fu_joined_from (ρ : Ro) : Nat := 100
def fu__law_parted_squares (ρ : Ro) : Nat := 100
def fu__law_ring (ρ : Ro) : Nat := 4000
def fu__law_order_of (ρ : Ro) : Nat := 100
abbrev s_is_any_whole : Stmt := topS 4
theorem sc_is_any_whole : FnScope ["thing"] ["thing"] (defScope s_is_any_whole) := ⟨rfl, rfl, rfl, by decide +kernel, rfl, by decide +kernel, by decide +kernel⟩
def B_is_any_whole : MS := (sRet (eAnd (eOp1 (isaV "int") (eVar 0)) (eNot (eOp1 (isaV "bool") (eVar 0)))))
def F_is_any_whole : List D → Option D := runF 1 1 B_is_any_whole
theorem w_is_any_whole (T : Txt K mg) (ff : Addr) : ∃ W : List Nat, ∀ (cdv : Value) (A : Around) (outer : List Env) (s : Shared) (H : Hp) (E : XK), Room 0 (A.deeper (envOfC "is_any_whole" (defScope s_is_any_whole) s.heap.objs.size ff cdv)) → QSs (cxOf CX0 P w K mg base ["thing"] "is_any_whole" (defScope s_is_any_whole) ff cdv A outer s H E).nox W (defBody s_is_any_whole) B_is_any_whole :=
  ⟨_, fun cdv A outer s H E hr => (qs_one (qs_ret (qe_and (qe_isa (qe_var 0) T.b_isinstance T.b_int) (qe_one (qe_not (qe_isa (qe_var 0) T.b_isinstance T.b_bool))))))⟩
theorem ok_is_any_whole (T : Txt K mg) (X_is_any_whole : Def K mg "is_any_whole" "is_any_whole" s_is_any_whole ["thing"]) : Has P w K mg base "is_any_whole" 1 ["thing"] (spP K F_is_any_whole 1) := by
  obtain ⟨ff, fd, FF, gg, bb⟩ := X_is_any_whole
  obtain ⟨W, hw⟩ := w_is_any_whole T ff
  have o : FnOk P w K mg base CX0 1 ff fd ["thing"] (spP K (runF 1 1 B_is_any_whole) 1) := fnP (k := 0) FF sc_is_any_whole hw
  exact ⟨ff, fd, o, gg, FF.kp, bb⟩
abbrev s_is_whole : Stmt := topS 5
theorem sc_is_whole : FnScope ["thing", "low", "high"] ["thing", "low", "high"] (defScope s_is_whole) := ⟨rfl, rfl, rfl, by decide +kernel, rfl, by decide +kernel, by decide +kernel⟩
def B_is_whole : MS := (sRet (eAnd (eApp F_is_any_whole (aCons (eVar 0) aNil)) (eChain dLe dLe (eVar 1) (eVar 0) (eVar 2))))
def F_is_whole : List D → Option D := runF 3 3 B_is_whole
theorem w_is_whole (T : Txt K mg) (ff : Addr) {f_is_any_whole : Addr} {fd_is_any_whole : FuncData} (O_is_any_whole : FnOk P w K mg base CX0 1 f_is_any_whole fd_is_any_whole ["thing"] (spP K F_is_any_whole 1)) (g_is_any_whole : mg "is_any_whole" = some (.ref f_is_any_whole)) (k_is_any_whole : PySem.W.keepIn K (.ref f_is_any_whole) = true) (b_is_any_whole : Binds K fd_is_any_whole ["thing"] []) : ∃ W : List Nat, ∀ (cdv : Value) (A : Around) (outer : List Env) (s : Shared) (H : Hp) (E : XK), Room 1 (A.deeper (envOfC "is_whole" (defScope s_is_whole) s.heap.objs.size ff cdv)) → QSs (cxOf CX0 P w K mg base ["thing", "low", "high"] "is_whole" (defScope s_is_whole) ff cdv A outer s H E).nox W (defBody s_is_whole) B_is_whole :=
  ⟨_, fun cdv A outer s H E hr => (qs_one (qs_ret (qe_and (qe_call O_is_any_whole (hr.mono (by decide)) g_is_any_whole k_is_any_whole b_is_any_whole (qa_cons (qe_var 0) qa_nil)) (qe_one (qe_chain op_le op_le d_le d_le (qe_var 1) (qe_var 0) (qe_var 2))))))⟩
theorem ok_is_whole (T : Txt K mg) (X_is_whole : Def K mg "is_whole" "is_whole" s_is_whole ["thing", "low", "high"]) (H_is_any_whole : Has P w K mg base "is_any_whole" 1 ["thing"] (spP K F_is_any_whole 1)) : Has P w K mg base "is_whole" 2 ["thing", "low", "high"] (spP K F_is_whole 3) := by
  obtain ⟨f_is_any_whole, fd_is_any_whole, O_is_any_whole, g_is_any_whole, k_is_any_whole, b_is_any_whole⟩ := H_is_any_whole
  obtain ⟨ff, fd, FF, gg, bb⟩ := X_is_whole
  obtain ⟨W, hw⟩ := w_is_whole T ff O_is_any_whole g_is_any_whole k_is_any_whole b_is_any_whole
  have o : FnOk P w K mg base CX0 2 ff fd ["thing", "low", "high"] (spP K (runF 3 3 B_is_whole) 3) := fnP (k := 1) FF sc_is_whole hw
  exact ⟨ff, fd, o, gg, FF.kp, bb⟩
abbrev s_common : Stmt := topS 6
theorem sc_common : FnScope ["one", "other"] ["one", "other"] (defScope s_common) := ⟨rfl, rfl, rfl, by decide +kernel, rfl, by decide +kernel, by decide +kernel⟩
def B_common : MS := (sSeq (sWhile fu_common (cV (eOp2 dGt (eVar 1) (eC (.int 0)))) (sPar2 0 1 (xDat (eVar 1) (xDat (eOp2 dMod (eVar 0) (eVar 1)) xNil)))) (sRet (eVar 0)))
def F_common : List D → Option D := runF 2 2 B_common
theorem w_common (T : Txt K mg) (ff : Addr) : ∃ W : List Nat, ∀ (cdv : Value) (A : Around) (outer : List Env) (s : Shared) (H : Hp) (E : XK), Room 0 (A.deeper (envOfC "common" (defScope s_common) s.heap.objs.size ff cdv)) → QSs (cxOf CX0 P w K mg base ["one", "other"] "common" (defScope s_common) ff cdv A outer s H E).nox W (defBody s_common) B_common :=
  ⟨_, fun cdv A outer s H E hr => (qs_cons (qs_while fu_common (qt_cmp op_gt d_gt (qe_var 1) qe_int) (qs_one (qs_par (i := 0) (j := 1) sc_common.nd (qx_dat (qe_var 1) (qx_dat (qe_mod (qe_var 0) (qe_var 1)) qx_nil))))) (qs_one (qs_ret (qe_var 0))))⟩
theorem ok_common (T : Txt K mg) (X_common : Def K mg "common" "common" s_common ["one", "other"]) : Has P w K mg base "common" 1 ["one", "other"] (spP K F_common 2) := by
  obtain ⟨ff, fd, FF, gg, bb⟩ := X_common
  obtain ⟨W, hw⟩ := w_common T ff
  have o : FnOk P w K mg base CX0 1 ff fd ["one", "other"] (spP K (runF 2 2 B_common) 2) := fnP (k := 0) FF sc_common hw
  exact ⟨ff, fd, o, gg, FF.kp, bb⟩
abbrev s_made_of : Stmt := topS 7
theorem sc_made_of : FnScope ["top", "bottom", "both"] ["top", "bottom"] (defScope s_made_of) := ⟨rfl, rfl, rfl, by decide +kernel, rfl, by decide +kernel, by decide +kernel⟩
def B_made_of : MS := (sSeq (sIf (cV (eOp2 dLt (eVar 1) (eC (.int 0)))) (sPar2 0 1 (xDat (eOp2 dSub (eC (.int 0)) (eVar 0)) (xDat (eOp2 dSub (eC (.int 0)) (eVar 1)) xNil))) sNil) (sSeq (sAsg (eApp F_common (aCons (eApp dAbs (aCons (eVar 0) aNil)) (aCons (eVar 1) aNil))) (gSet 2)) (sRet (eApp mkTup (aCons (eOp2 dDiv (eVar 0) (eVar 2)) (aCons (eOp2 dDiv (eVar 1) (eVar 2)) aNil))))))
def F_made_of : List D → Option D := runF 2 3 B_made_of
theorem w_made_of (T : Txt K mg) (ff : Addr) {f_common : Addr} {fd_common : FuncData} (O_common : FnOk P w K mg base CX0 1 f_common fd_common ["one", "other"] (spP K F_common 2)) (g_common : mg "common" = some (.ref f_common)) (k_common : PySem.W.keepIn K (.ref f_common) = true) (b_common : Binds K fd_common ["one", "other"] []) : ∃ W : List Nat, ∀ (cdv : Value) (A : Around) (outer : List Env) (s : Shared) (H : Hp) (E : XK), Room 1 (A.deeper (envOfC "made_of" (defScope s_made_of) s.heap.objs.size ff cdv)) → QSs (cxOf CX0 P w K mg base ["top", "bottom", "both"] "made_of" (defScope s_made_of) ff cdv A outer s H E).nox W (defBody s_made_of) B_made_of :=
  ⟨_, fun cdv A outer s H E hr => (qs_cons (qs_if (qt_cmp op_lt d_lt (qe_var 1) qe_int) (qs_one (qs_par (i := 0) (j := 1) sc_made_of.nd (qx_dat (qe_sub qe_int (qe_var 0)) (qx_dat (qe_sub qe_int (qe_var 1)) qx_nil)))) qs_nil) (qs_cons (qs_set 2 sc_made_of.nd (qe_call O_common (hr.mono (by decide)) g_common k_common b_common (qa_cons (qe_callB call_abs d_abs T.b_abs (qa_cons (qe_var 0) qa_nil)) (qa_cons (qe_var 1) qa_nil)))) (qs_one (qs_ret (qe_tup (qa_cons (qe_div (qe_var 0) (qe_var 2)) (qa_cons (qe_div (qe_var 1) (qe_var 2)) qa_nil)))))))⟩
theorem ok_made_of (T : Txt K mg) (X_made_of : Def K mg "made_of" "made_of" s_made_of ["top", "bottom"]) (H_common : Has P w K mg base "common" 1 ["one", "other"] (spP K F_common 2)) : Has P w K mg base "made_of" 2 ["top", "bottom"] (spP K F_made_of 2) := by
  obtain ⟨f_common, fd_common, O_common, g_common, k_common, b_common⟩ := H_common
  obtain ⟨ff, fd, FF, gg, bb⟩ := X_made_of
  obtain ⟨W, hw⟩ := w_made_of T ff O_common g_common k_common b_common
  have o : FnOk P w K mg base CX0 2 ff fd ["top", "bottom"] (spP K (runF 2 3 B_made_of) 2) := fnP (k := 1) FF sc_made_of hw
  exact ⟨ff, fd, o, gg, FF.kp, bb⟩
abbrev s_is_fraction : Stmt := topS 8
theorem sc_is_fraction : FnScope ["thing", "one"] ["thing"] (defScope s_is_fraction) := ⟨rfl, rfl, rfl, by decide +kernel, rfl, by decide +kernel, by decide +kernel⟩
def B_is_fraction : MS := (sSeq (sIf (cOr (cNot (cV (eOp1 (isaV "tuple") (eVar 0)))) (cOr (cV (eOp2 dNe (eApp dLen (aCons (eVar 0) aNil)) (eC (.int 2)))) (cNot (cV (eApp dAll (aCons (eLc [1] (iSeq (eVar 0)) (gSet 1) cTrue (eApp F_is_any_whole (aCons (eVar 1) aNil))) aNil)))))) (sRet (eC (.bool false))) sNil) (sRet (eAnd (eOp2 dGt (eOp2 dIx (eVar 0) (eC (.int 1))) (eC (.int 0))) (eOp2 dEq (eApp F_common (aCons (eApp dAbs (aCons (eOp2 dIx (eVar 0) (eC (.int 0))) aNil)) (aCons (eOp2 dIx (eVar 0) (eC (.int 1))) aNil))) (eC (.int 1))))))
def F_is_fraction : List D → Option D := runF 1 2 B_is_fraction
theorem w_is_fraction (T : Txt K mg) (ff : Addr) {f_common : Addr} {fd_common : FuncData} (O_common : FnOk P w K mg base CX0 1 f_common fd_common ["one", "other"] (spP K F_common 2)) (g_common : mg "common" = some (.ref f_common)) (k_common : PySem.W.keepIn K (.ref f_common) = true) (b_common : Binds K fd_common ["one", "other"] []) {f_is_any_whole : Addr} {fd_is_any_whole : FuncData} (O_is_any_whole : FnOk P w K mg base CX0 1 f_is_any_whole fd_is_any_whole ["thing"] (spP K F_is_any_whole 1)) (g_is_any_whole : mg "is_any_whole" = some (.ref f_is_any_whole)) (k_is_any_whole : PySem.W.keepIn K (.ref f_is_any_whole) = true) (b_is_any_whole : Binds K fd_is_any_whole ["thing"] []) : ∃ W : List Nat, ∀ (cdv : Value) (A : Around) (outer : List Env) (s : Shared) (H : Hp) (E : XK), Room 1 (A.deeper (envOfC "is_fraction" (defScope s_is_fraction) s.heap.objs.size ff cdv)) → QSs (cxOf CX0 P w K mg base ["thing", "one"] "is_fraction" (defScope s_is_fraction) ff cdv A outer s H E).nox W (defBody s_is_fraction) B_is_fraction :=
  ⟨_, fun cdv A outer s H E hr => (qs_cons (qs_if (qw_pt (qw_or (qt_not (qt_val (qe_isa (qe_var 0) T.b_isinstance T.b_tuple))) (qw_or (qt_cmp (op_neD hr.units) d_ne (qe_callB call_len_seq d_len T.b_len (qa_cons (qe_var 0) qa_nil)) qe_int) (qw_or1 (qt_not (qt_val (qe_callB (cr_all rfl) d_all T.b_all (qa_cons (qe_lc [("one", 1)] sc_is_fraction.nd (qi_seq (qe_var 0)) (blkOk_by (N := ["thing", "one"]) (sc := (defScope s_is_fraction)) (by decide +kernel)) (fun _ _ _ _ _ => (qg_name 1 sc_is_fraction.nd)) (fun _ _ _ _ _ => qts_nil) (fun _ _ _ _ _ => (qe_call O_is_any_whole (hr.mono (by decide)) g_is_any_whole k_is_any_whole b_is_any_whole (qa_cons (qe_var 1) qa_nil)))) qa_nil)))))))) (qs_one (qs_ret qe_bl)) qs_nil) (qs_one (qs_ret (qe_and (qe_cmp op_gt d_gt (qe_ix (qe_var 0) qe_int) qe_int) (qe_one (qe_cmp (op_eqD hr.units) d_eq (qe_call O_common (hr.mono (by decide)) g_common k_common b_common (qa_cons (qe_callB call_abs d_abs T.b_abs (qa_cons (qe_ix (qe_var 0) qe_int) qa_nil)) (qa_cons (qe_ix (qe_var 0) qe_int) qa_nil))) qe_int))))))⟩
theorem ok_is_fraction (T : Txt K mg) (X_is_fraction : Def K mg "is_fraction" "is_fraction" s_is_fraction ["thing"]) (H_common : Has P w K mg base "common" 1 ["one", "other"] (spP K F_common 2)) (H_is_any_whole : Has P w K mg base "is_any_whole" 1 ["thing"] (spP K F_is_any_whole 1)) : Has P w K mg base "is_fraction" 2 ["thing"] (spP K F_is_fraction 1) := by
  obtain ⟨f_common, fd_common, O_common, g_common, k_common, b_common⟩ := H_common
  obtain ⟨f_is_any_whole, fd_is_any_whole, O_is_any_whole, g_is_any_whole, k_is_any_whole, b_is_any_whole⟩ := H_is_any_whole
  obtain ⟨ff, fd, FF, gg, bb⟩ := X_is_fraction
  obtain ⟨W, hw⟩ := w_is_fraction T ff O_common g_common k_common b_common O_is_any_whole g_is_any_whole k_is_any_whole b_is_any_whole
  have o : FnOk P w K mg base CX0 2 ff fd ["thing"] (spP K (runF 1 2 B_is_fraction) 1) := fnP (k := 1) FF sc_is_fraction hw
  exact ⟨ff, fd, o, gg, FF.kp, bb⟩
abbrev s_plus : Stmt := topS 9
theorem sc_plus : FnScope ["one", "other"] ["one", "other"] (defScope s_plus) := ⟨rfl, rfl, rfl, by decide +kernel, rfl, by decide +kernel, by decide +kernel⟩
def B_plus : MS := (sRet (eApp F_made_of (aCons (eOp2 dAdd (eOp2 dMul (eOp2 dIx (eVar 0) (eC (.int 0))) (eOp2 dIx (eVar 1) (eC (.int 1)))) (eOp2 dMul (eOp2 dIx (eVar 1) (eC (.int 0))) (eOp2 dIx (eVar 0) (eC (.int 1))))) (aCons (eOp2 dMul (eOp2 dIx (eVar 0) (eC (.int 1))) (eOp2 dIx (eVar 1) (eC (.int 1)))) aNil))))
def F_plus : List D → Option D := runF 2 2 B_plus
theorem w_plus (T : Txt K mg) (ff : Addr) {f_made_of : Addr} {fd_made_of : FuncData} (O_made_of : FnOk P w K mg base CX0 2 f_made_of fd_made_of ["top", "bottom"] (spP K F_made_of 2)) (g_made_of : mg "made_of" = some (.ref f_made_of)) (k_made_of : PySem.W.keepIn K (.ref f_made_of) = true) (b_made_of : Binds K fd_made_of ["top", "bottom"] []) : ∃ W : List Nat, ∀ (cdv : Value) (A : Around) (outer : List Env) (s : Shared) (H : Hp) (E : XK), Room 2 (A.deeper (envOfC "plus" (defScope s_plus) s.heap.objs.size ff cdv)) → QSs (cxOf CX0 P w K mg base ["one", "other"] "plus" (defScope s_plus) ff cdv A outer s H E).nox W (defBody s_plus) B_plus :=
  ⟨_, fun cdv A outer s H E hr => (qs_one (qs_ret (qe_call O_made_of (hr.mono (by decide)) g_made_of k_made_of b_made_of (qa_cons (qe_add (qe_mul (qe_ix (qe_var 0) qe_int) (qe_ix (qe_var 1) qe_int)) (qe_mul (qe_ix (qe_var 1) qe_int) (qe_ix (qe_var 0) qe_int))) (qa_cons (qe_mul (qe_ix (qe_var 0) qe_int) (qe_ix (qe_var 1) qe_int)) qa_nil)))))⟩
theorem ok_plus (T : Txt K mg) (X_plus : Def K mg "plus" "plus" s_plus ["one", "other"]) (H_made_of : Has P w K mg base "made_of" 2 ["top", "bottom"] (spP K F_made_of 2)) : Has P w K mg base "plus" 3 ["one", "other"] (spP K F_plus 2) := by
  obtain ⟨f_made_of, fd_made_of, O_made_of, g_made_of, k_made_of, b_made_of⟩ := H_made_of
  obtain ⟨ff, fd, FF, gg, bb⟩ := X_plus
  obtain ⟨W, hw⟩ := w_plus T ff O_made_of g_made_of k_made_of b_made_of
  have o : FnOk P w K mg base CX0 3 ff fd ["one", "other"] (spP K (runF 2 2 B_plus) 2) := fnP (k := 2) FF sc_plus hw
  exact ⟨ff, fd, o, gg, FF.kp, bb⟩
abbrev s_less : Stmt := topS 10
theorem sc_less : FnScope ["one"] ["one"] (defScope s_less) := ⟨rfl, rfl, rfl, by decide +kernel, rfl, by decide +kernel, by decide +kernel⟩
def B_less : MS := (sRet (eApp mkTup (aCons (eOp2 dSub (eC (.int 0)) (eOp2 dIx (eVar 0) (eC (.int 0)))) (aCons (eOp2 dIx (eVar 0) (eC (.int 1))) aNil))))
def F_less : List D → Option D := runF 1 1 B_less
theorem w_less (T : Txt K mg) (ff : Addr) : ∃ W : List Nat, ∀ (cdv : Value) (A : Around) (outer : List Env) (s : Shared) (H : Hp) (E : XK), Room 0 (A.deeper (envOfC "less" (defScope s_less) s.heap.objs.size ff cdv)) → QSs (cxOf CX0 P w K mg base ["one"] "less" (defScope s_less) ff cdv A outer s H E).nox W (defBody s_less) B_less :=
  ⟨_, fun cdv A outer s H E hr => (qs_one (qs_ret (qe_tup (qa_cons (qe_sub qe_int (qe_ix (qe_var 0) qe_int)) (qa_cons (qe_ix (qe_var 0) qe_int) qa_nil)))))⟩
theorem ok_less (T : Txt K mg) (X_less : Def K mg "less" "less" s_less ["one"]) : Has P w K mg base "less" 1 ["one"] (spP K F_less 1) := by
  obtain ⟨ff, fd, FF, gg, bb⟩ := X_less
  obtain ⟨W, hw⟩ := w_less T ff
  have o : FnOk P w K mg base CX0 1 ff fd ["one"] (spP K (runF 1 1 B_less) 1) := fnP (k := 0) FF sc_less hw
  exact ⟨ff, fd, o, gg, FF.kp, bb⟩
abbrev s_minus : Stmt := topS 11
theorem sc_minus : FnScope ["one", "other"] ["one", "other"] (defScope s_minus) := ⟨rfl, rfl, rfl, by decide +kernel, rfl, by decide +kernel, by decide +kernel⟩
def B_minus : MS := (sRet (eApp F_plus (aCons (eVar 0) (aCons (eApp F_less (aCons (eVar 1) aNil)) aNil))))
def F_minus : List D → Option D := runF 2 2 B_minus
theorem w_minus (T : Txt K mg) (ff : Addr) {f_less : Addr} {fd_less : FuncData} (O_less : FnOk P w K mg base CX0 1 f_less fd_less ["one"] (spP K F_less 1)) (g_less : mg "less" = some (.ref f_less)) (k_less : PySem.W.keepIn K (.ref f_less) = true) (b_less : Binds K fd_less ["one"] []) {f_plus : Addr} {fd_plus : FuncData} (O_plus : FnOk P w K mg base CX0 3 f_plus fd_plus ["one", "other"] (spP K F_plus 2)) (g_plus : mg "plus" = some (.ref f_plus)) (k_plus : PySem.W.keepIn K (.ref f_plus) = true) (b_plus : Binds K fd_plus ["one", "other"] []) : ∃ W : List Nat, ∀ (cdv : Value) (A : Around) (outer : List Env) (s : Shared) (H : Hp) (E : XK), Room 3 (A.deeper (envOfC "minus" (defScope s_minus) s.heap.objs.size ff cdv)) → QSs (cxOf CX0 P w K mg base ["one", "other"] "minus" (defScope s_minus) ff cdv A outer s H E).nox W (defBody s_minus) B_minus :=
  ⟨_, fun cdv A outer s H E hr => (qs_one (qs_ret (qe_call O_plus (hr.mono (by decide)) g_plus k_plus b_plus (qa_cons (qe_var 0) (qa_cons (qe_call O_less (hr.mono (by decide)) g_less k_less b_less (qa_cons (qe_var 1) qa_nil)) qa_nil)))))⟩
theorem ok_minus (T : Txt K mg) (X_minus : Def K mg "minus" "minus" s_minus ["one", "other"]) (H_less : Has P w K mg base "less" 1 ["one"] (spP K F_less 1)) (H_plus : Has P w K mg base "plus" 3 ["one", "other"] (spP K F_plus 2)) : Has P w K mg base "minus" 4 ["one", "other"] (spP K F_minus 2) := by
  obtain ⟨f_less, fd_less, O_less, g_less, k_less, b_less⟩ := H_less
  obtain ⟨f_plus, fd_plus, O_plus, g_plus, k_plus, b_plus⟩ := H_plus
  obtain ⟨ff, fd, FF, gg, bb⟩ := X_minus
  obtain ⟨W, hw⟩ := w_minus T ff O_less g_less k_less b_less O_plus g_plus k_plus b_plus
  have o : FnOk P w K mg base CX0 4 ff fd ["one", "other"] (spP K (runF 2 2 B_minus) 2) := fnP (k := 3) FF sc_minus hw
  exact ⟨ff, fd, o, gg, FF.kp, bb⟩
abbrev s_times : Stmt := topS 12
theorem sc_times : FnScope ["one", "other"] ["one", "other"] (defScope s_times) := ⟨rfl, rfl, rfl, by decide +kernel, rfl, by decide +kernel, by decide +kernel⟩
def B_times : MS := (sRet (eApp F_made_of (aCons (eOp2 dMul (eOp2 dIx (eVar 0) (eC (.int 0))) (eOp2 dIx (eVar 1) (eC (.int 0)))) (aCons (eOp2 dMul (eOp2 dIx (eVar 0) (eC (.int 1))) (eOp2 dIx (eVar 1) (eC (.int 1)))) aNil))))
def F_times : List D → Option D := runF 2 2 B_times
theorem w_times (T : Txt K mg) (ff : Addr) {f_made_of : Addr} {fd_made_of : FuncData} (O_made_of : FnOk P w K mg base CX0 2 f_made_of fd_made_of ["top", "bottom"] (spP K F_made_of 2)) (g_made_of : mg "made_of" = some (.ref f_made_of)) (k_made_of : PySem.W.keepIn K (.ref f_made_of) = true) (b_made_of : Binds K fd_made_of ["top", "bottom"] []) : ∃ W : List Nat, ∀ (cdv : Value) (A : Around) (outer : List Env) (s : Shared) (H : Hp) (E : XK), Room 2 (A.deeper (envOfC "times" (defScope s_times) s.heap.objs.size ff cdv)) → QSs (cxOf CX0 P w K mg base ["one", "other"] "times" (defScope s_times) ff cdv A outer s H E).nox W (defBody s_times) B_times :=
  ⟨_, fun cdv A outer s H E hr => (qs_one (qs_ret (qe_call O_made_of (hr.mono (by decide)) g_made_of k_made_of b_made_of (qa_cons (qe_mul (qe_ix (qe_var 0) qe_int) (qe_ix (qe_var 1) qe_int)) (qa_cons (qe_mul (qe_ix (qe_var 0) qe_int) (qe_ix (qe_var 1) qe_int)) qa_nil)))))⟩
theorem ok_times (T : Txt K mg) (X_times : Def K mg "times" "times" s_times ["one", "other"]) (H_made_of : Has P w K mg base "made_of" 2 ["top", "bottom"] (spP K F_made_of 2)) : Has P w K mg base "times" 3 ["one", "other"] (spP K F_times 2) := by
  obtain ⟨f_made_of, fd_made_of, O_made_of, g_made_of, k_made_of, b_made_of⟩ := H_made_of
  obtain ⟨ff, fd, FF, gg, bb⟩ := X_times
  obtain ⟨W, hw⟩ := w_times T ff O_made_of g_made_of k_made_of b_made_of
  have o : FnOk P w K mg base CX0 3 ff fd ["one", "other"] (spP K (runF 2 2 B_times) 2) := fnP (k := 2) FF sc_times hw
  exact ⟨ff, fd, o, gg, FF.kp, bb⟩
abbrev s_over : Stmt := topS 13
theorem sc_over : FnScope ["one", "other"] ["one", "other"] (defScope s_over) := ⟨rfl, rfl, rfl, by decide +kernel, rfl, by decide +kernel, by decide +kernel⟩
def B_over : MS := (sRet (eApp F_made_of (aCons (eOp2 dMul (eOp2 dIx (eVar 0) (eC (.int 0))) (eOp2 dIx (eVar 1) (eC (.int 1)))) (aCons (eOp2 dMul (eOp2 dIx (eVar 0) (eC (.int 1))) (eOp2 dIx (eVar 1) (eC (.int 0)))) aNil))))
def F_over : List D → Option D := runF 2 2 B_over
theorem w_over (T : Txt K mg) (ff : Addr) {f_made_of : Addr} {fd_made_of : FuncData} (O_made_of : FnOk P w K mg base CX0 2 f_made_of fd_made_of ["top", "bottom"] (spP K F_made_of 2)) (g_made_of : mg "made_of" = some (.ref f_made_of)) (k_made_of : PySem.W.keepIn K (.ref f_made_of) = true) (b_made_of : Binds K fd_made_of ["top", "bottom"] []) : ∃ W : List Nat, ∀ (cdv : Value) (A : Around) (outer : List Env) (s : Shared) (H : Hp) (E : XK), Room 2 (A.deeper (envOfC "over" (defScope s_over) s.heap.objs.size ff cdv)) → QSs (cxOf CX0 P w K mg base ["one", "other"] "over" (defScope s_over) ff cdv A outer s H E).nox W (defBody s_over) B_over :=
  ⟨_, fun cdv A outer s H E hr => (qs_one (qs_ret (qe_call O_made_of (hr.mono (by decide)) g_made_of k_made_of b_made_of (qa_cons (qe_mul (qe_ix (qe_var 0) qe_int) (qe_ix (qe_var 1) qe_int)) (qa_cons (qe_mul (qe_ix (qe_var 0) qe_int) (qe_ix (qe_var 1) qe_int)) qa_nil)))))⟩
theorem ok_over (T : Txt K mg) (X_over : Def K mg "over" "over" s_over ["one", "other"]) (H_made_of : Has P w K mg base "made_of" 2 ["top", "bottom"] (spP K F_made_of 2)) : Has P w K mg base "over" 3 ["one", "other"] (spP K F_over 2) := by
  obtain ⟨f_made_of, fd_made_of, O_made_of, g_made_of, k_made_of, b_made_of⟩ := H_made_of
  obtain ⟨ff, fd, FF, gg, bb⟩ := X_over
  obtain ⟨W, hw⟩ := w_over T ff O_made_of g_made_of k_made_of b_made_of
  have o : FnOk P w K mg base CX0 3 ff fd ["one", "other"] (spP K (runF 2 2 B_over) 2) := fnP (k := 2) FF sc_over hw
  exact ⟨ff, fd, o, gg, FF.kp, bb⟩
abbrev s_total : Stmt := topS 14
theorem sc_total : FnScope ["some", "made", "one"] ["some"] (defScope s_total) := ⟨rfl, rfl, rfl, by decide +kernel, rfl, by decide +kernel, by decide +kernel⟩
def B_total : MS := (sSeq (sAsg (eC (.tuple [(.int 0), (.int 1)])) (gSet 1)) (sSeq (sFor (iSeq (eVar 0)) (gSet 2) (sAsg (eApp F_plus (aCons (eVar 1) (aCons (eVar 2) aNil))) (gSet 1))) (sRet (eVar 1))))
def F_total : List D → Option D := runF 1 3 B_total
theorem w_total (T : Txt K mg) (ff : Addr) {f_plus : Addr} {fd_plus : FuncData} (O_plus : FnOk P w K mg base CX0 3 f_plus fd_plus ["one", "other"] (spP K F_plus 2)) (g_plus : mg "plus" = some (.ref f_plus)) (k_plus : PySem.W.keepIn K (.ref f_plus) = true) (b_plus : Binds K fd_plus ["one", "other"] []) : ∃ W : List Nat, ∀ (cdv : Value) (A : Around) (outer : List Env) (s : Shared) (H : Hp) (E : XK), Room 3 (A.deeper (envOfC "total" (defScope s_total) s.heap.objs.size ff cdv)) → QSs (cxOf CX0 P w K mg base ["some", "made", "one"] "total" (defScope s_total) ff cdv A outer s H E).nox W (defBody s_total) B_total :=
  ⟨_, fun cdv A outer s H E hr => (qs_cons (qs_set 1 sc_total.nd (qe_glob T.g_NOUGHT)) (qs_cons (qs_for (qi_seq (qe_var 0)) (qg_name 2 sc_total.nd) (qs_one (qs_set 1 sc_total.nd (qe_call O_plus (hr.mono (by decide)) g_plus k_plus b_plus (qa_cons (qe_var 1) (qa_cons (qe_var 2) qa_nil)))))) (qs_one (qs_ret (qe_var 1)))))⟩
theorem ok_total (T : Txt K mg) (X_total : Def K mg "total" "total" s_total ["some"]) (H_plus : Has P w K mg base "plus" 3 ["one", "other"] (spP K F_plus 2)) : Has P w K mg base "total" 4 ["some"] (spP K F_total 1) := by
  obtain ⟨f_plus, fd_plus, O_plus, g_plus, k_plus, b_plus⟩ := H_plus
  obtain ⟨ff, fd, FF, gg, bb⟩ := X_total
  obtain ⟨W, hw⟩ := w_total T ff O_plus g_plus k_plus b_plus
  have o : FnOk P w K mg base CX0 4 ff fd ["some"] (spP K (runF 1 3 B_total) 1) := fnP (k := 3) FF sc_total hw
  exact ⟨ff, fd, o, gg, FF.kp, bb⟩
abbrev s_is_proportion : Stmt := topS 30
theorem sc_is_proportion : FnScope ["thing"] ["thing"] (defScope s_is_proportion) := ⟨rfl, rfl, rfl, by decide +kernel, rfl, by decide +kernel, by decide +kernel⟩
def B_is_proportion : MS := (sRet (eAnd (eApp F_is_fraction (aCons (eVar 0) aNil)) (eOp2 dGt (eOp2 dIx (eVar 0) (eC (.int 0))) (eC (.int 0)))))
def F_is_proportion : List D → Option D := runF 1 1 B_is_proportion
theorem w_is_proportion (T : Txt K mg) (ff : Addr) {f_is_fraction : Addr} {fd_is_fraction : FuncData} (O_is_fraction : FnOk P w K mg base CX0 2 f_is_fraction fd_is_fraction ["thing"] (spP K F_is_fraction 1)) (g_is_fraction : mg "is_fraction" = some (.ref f_is_fraction)) (k_is_fraction : PySem.W.keepIn K (.ref f_is_fraction) = true) (b_is_fraction : Binds K fd_is_fraction ["thing"] []) : ∃ W : List Nat, ∀ (cdv : Value) (A : Around) (outer : List Env) (s : Shared) (H : Hp) (E : XK), Room 2 (A.deeper (envOfC "is_proportion" (defScope s_is_proportion) s.heap.objs.size ff cdv)) → QSs (cxOf CX0 P w K mg base ["thing"] "is_proportion" (defScope s_is_proportion) ff cdv A outer s H E).nox W (defBody s_is_proportion) B_is_proportion :=
  ⟨_, fun cdv A outer s H E hr => (qs_one (qs_ret (qe_and (qe_call O_is_fraction (hr.mono (by decide)) g_is_fraction k_is_fraction b_is_fraction (qa_cons (qe_var 0) qa_nil)) (qe_one (qe_cmp op_gt d_gt (qe_ix (qe_var 0) qe_int) qe_int)))))⟩
theorem ok_is_proportion (T : Txt K mg) (X_is_proportion : Def K mg "is_proportion" "is_proportion" s_is_proportion ["thing"]) (H_is_fraction : Has P w K mg base "is_fraction" 2 ["thing"] (spP K F_is_fraction 1)) : Has P w K mg base "is_proportion" 3 ["thing"] (spP K F_is_proportion 1) := by
  obtain ⟨f_is_fraction, fd_is_fraction, O_is_fraction, g_is_fraction, k_is_fraction, b_is_fraction⟩ := H_is_fraction
  obtain ⟨ff, fd, FF, gg, bb⟩ := X_is_proportion
  obtain ⟨W, hw⟩ := w_is_proportion T ff O_is_fraction g_is_fraction k_is_fraction b_is_fraction
  have o : FnOk P w K mg base CX0 3 ff fd ["thing"] (spP K (runF 1 1 B_is_proportion) 1) := fnP (k := 2) FF sc_is_proportion hw
  exact ⟨ff, fd, o, gg, FF.kp, bb⟩
abbrev s_is_room : Stmt := topS 31
theorem sc_is_room : FnScope ["beams", "thing", "one"] ["beams", "thing"] (defScope s_is_room) := ⟨rfl, rfl, rfl, by decide +kernel, rfl, by decide +kernel, by decide +kernel⟩
def B_is_room : MS := (sSeq (sIf (cOr (cNot (cV (eOp1 (isaV "tuple") (eVar 1)))) (cOr (cV (eOp2 dNe (eApp dLen (aCons (eVar 1) aNil)) (eC (.int 3)))) (cNot (cV (eApp dAll (aCons (eLc [2] (iSeq (eSlice (eVar 1) pNone (pSome (eC (.int 2))))) (gSet 2) cTrue (eApp F_is_whole (aCons (eVar 2) (aCons (eC (.int 0)) (aCons (eOp2 dSub (eVar 0) (eC (.int 1))) aNil))))) aNil)))))) (sRet (eC (.bool false))) sNil) (sRet (eAnd (eOp2 dNe (eOp2 dIx (eVar 1) (eC (.int 0))) (eOp2 dIx (eVar 1) (eC (.int 1)))) (eApp F_is_proportion (aCons (eOp2 dIx (eVar 1) (eC (.int 2))) aNil)))))
def F_is_room : List D → Option D := runF 2 3 B_is_room
theorem w_is_room (T : Txt K mg) (ff : Addr) {f_is_proportion : Addr} {fd_is_proportion : FuncData} (O_is_proportion : FnOk P w K mg base CX0 3 f_is_proportion fd_is_proportion ["thing"] (spP K F_is_proportion 1)) (g_is_proportion : mg "is_proportion" = some (.ref f_is_proportion)) (k_is_proportion : PySem.W.keepIn K (.ref f_is_proportion) = true) (b_is_proportion : Binds K fd_is_proportion ["thing"] []) {f_is_whole : Addr} {fd_is_whole : FuncData} (O_is_whole : FnOk P w K mg base CX0 2 f_is_whole fd_is_whole ["thing", "low", "high"] (spP K F_is_whole 3)) (g_is_whole : mg "is_whole" = some (.ref f_is_whole)) (k_is_whole : PySem.W.keepIn K (.ref f_is_whole) = true) (b_is_whole : Binds K fd_is_whole ["thing", "low", "high"] []) : ∃ W : List Nat, ∀ (cdv : Value) (A : Around) (outer : List Env) (s : Shared) (H : Hp) (E : XK), Room 3 (A.deeper (envOfC "is_room" (defScope s_is_room) s.heap.objs.size ff cdv)) → QSs (cxOf CX0 P w K mg base ["beams", "thing", "one"] "is_room" (defScope s_is_room) ff cdv A outer s H E).nox W (defBody s_is_room) B_is_room :=
  ⟨_, fun cdv A outer s H E hr => (qs_cons (qs_if (qw_pt (qw_or (qt_not (qt_val (qe_isa (qe_var 1) T.b_isinstance T.b_tuple))) (qw_or (qt_cmp (op_neD hr.units) d_ne (qe_callB call_len_seq d_len T.b_len (qa_cons (qe_var 1) qa_nil)) qe_int) (qw_or1 (qt_not (qt_val (qe_callB (cr_all rfl) d_all T.b_all (qa_cons (qe_lc [("one", 2)] sc_is_room.nd (qi_seq (qe_slice (qe_var 1) qpo_none (qpo_some qe_int))) (blkOk_by (N := ["beams", "thing", "one"]) (sc := (defScope s_is_room)) (by decide +kernel)) (fun _ _ _ _ _ => (qg_name 2 sc_is_room.nd)) (fun _ _ _ _ _ => qts_nil) (fun _ _ _ _ _ => (qe_call O_is_whole (hr.mono (by decide)) g_is_whole k_is_whole b_is_whole (qa_cons (qe_var 2) (qa_cons qe_int (qa_cons (qe_sub (qe_var 0) qe_int) qa_nil)))))) qa_nil)))))))) (qs_one (qs_ret qe_bl)) qs_nil) (qs_one (qs_ret (qe_and (qe_cmp (op_neD hr.units) d_ne (qe_ix (qe_var 1) qe_int) (qe_ix (qe_var 1) qe_int)) (qe_one (qe_call O_is_proportion (hr.mono (by decide)) g_is_proportion k_is_proportion b_is_proportion (qa_cons (qe_ix (qe_var 1) qe_int) qa_nil)))))))⟩
theorem ok_is_room (T : Txt K mg) (X_is_room : Def K mg "is_room" "is_room" s_is_room ["beams", "thing"]) (H_is_proportion : Has P w K mg base "is_proportion" 3 ["thing"] (spP K F_is_proportion 1)) (H_is_whole : Has P w K mg base "is_whole" 2 ["thing", "low", "high"] (spP K F_is_whole 3)) : Has P w K mg base "is_room" 4 ["beams", "thing"] (spP K F_is_room 2) := by
  obtain ⟨f_is_proportion, fd_is_proportion, O_is_proportion, g_is_proportion, k_is_proportion, b_is_proportion⟩ := H_is_proportion
  obtain ⟨f_is_whole, fd_is_whole, O_is_whole, g_is_whole, k_is_whole, b_is_whole⟩ := H_is_whole
  obtain ⟨ff, fd, FF, gg, bb⟩ := X_is_room
  obtain ⟨W, hw⟩ := w_is_room T ff O_is_proportion g_is_proportion k_is_proportion b_is_proportion O_is_whole g_is_whole k_is_whole b_is_whole
  have o : FnOk P w K mg base CX0 4 ff fd ["beams", "thing"] (spP K (runF 2 3 B_is_room) 2) := fnP (k := 3) FF sc_is_room hw
  exact ⟨ff, fd, o, gg, FF.kp, bb⟩
abbrev s_joined_from : Stmt := topS 32
theorem sc_joined_from : FnScope ["rooms", "start", "found", "level", "later", "one", "other", "proportion", "here", "there"] ["rooms", "start"] (defScope s_joined_from) := ⟨rfl, rfl, rfl, by decide +kernel, rfl, by decide +kernel, by decide +kernel⟩
def B_joined_from : MS := (sSeq (sPar2 2 3 (xOwn (oDict (aCons (eVar 1) (aCons (eC (.bool true)) aNil))) (xDat (eApp mkLst (aCons (eVar 1) aNil)) xNil))) (sSeq (sWhile fu_joined_from (cV (eOp2 dNe (eVar 3) (eApp mkLst aNil))) (sSeq (sOwn 4 (oLst aNil)) (sSeq (sFor (iSeq (eVar 0)) (gTup [(gSet 5), (gSet 6), (gSet 7)]) (sFor (iSeq (eApp mkTup (aCons (eApp mkTup (aCons (eVar 5) (aCons (eVar 6) aNil))) (aCons (eApp mkTup (aCons (eVar 6) (aCons (eVar 5) aNil))) aNil)))) (gTup [(gSet 8), (gSet 9)]) (sIf (cAnd (cV (eOp2 dIn (eVar 8) (eVar 3))) (cV (eNotInOK 2 (eVar 9)))) (sSeq (sPutK 2 (eVar 9) (eC (.bool true))) (sDrop (eAppend 4 (eVar 9)))) sNil))) (sAsg (eVar 4) (gSet 3))))) (sRet (eApp dSortedK (aCons (eListOK 2) aNil)))))
def F_joined_from : List D → Option D := runF 2 10 B_joined_from
theorem w_joined_from (T : Txt K mg) (ff : Addr) : ∃ W : List Nat, ∀ (cdv : Value) (A : Around) (outer : List Env) (s : Shared) (H : Hp) (E : XK), Room 0 (A.deeper (envOfC "joined_from" (defScope s_joined_from) s.heap.objs.size ff cdv)) → QSs (cxOf CX0 P w K mg base ["rooms", "start", "found", "level", "later", "one", "other", "proportion", "here", "there"] "joined_from" (defScope s_joined_from) ff cdv A outer s H E).nox W (defBody s_joined_from) B_joined_from :=
  ⟨_, fun cdv A outer s H E hr => (qs_cons (qs_par (i := 2) (j := 3) sc_joined_from.nd (qx_own (qo_dict (qp_cons (qe_var 1) qe_bl qp_nil)) (qx_dat (qe_lst (qa_cons (qe_var 1) qa_nil)) qx_nil))) (qs_cons (qs_while fu_joined_from (qt_cmp (op_neD hr.units) d_ne (qe_var 3) (qe_lst qa_nil)) (qs_cons (qs_own 4 sc_joined_from.nd (qo_lst qa_nil)) (qs_cons (qs_for (qi_seq (qe_var 0)) (qg_tup (qgs_cons (qg_name 5 sc_joined_from.nd) (qgs_cons (qg_name 6 sc_joined_from.nd) (qgs_cons (qg_name 7 sc_joined_from.nd) qgs_nil)))) (qs_one (qs_for (qi_seq (qe_tup (qa_cons (qe_tup (qa_cons (qe_var 5) (qa_cons (qe_var 6) qa_nil))) (qa_cons (qe_tup (qa_cons (qe_var 6) (qa_cons (qe_var 5) qa_nil))) qa_nil)))) (qg_tup (qgs_cons (qg_name 8 sc_joined_from.nd) (qgs_cons (qg_name 9 sc_joined_from.nd) qgs_nil))) (qs_one (qs_if (qw_pt (qw_and (qt_cmp op_in_seq d_in (qe_var 8) (qe_var 3)) (qw_and1 (qt_notInOK 2 hr (qe_var 9))))) (qs_cons (qs_putK 2 hr (qe_var 9) qe_bl) (qs_one (qs_expr (qe_append 4 (qe_var 9))))) qs_nil))))) (qs_one (qs_set 3 sc_joined_from.nd (qe_var 4)))))) (qs_one (qs_ret (qe_callB cr_sortedI d_sortedK T.b_sorted (qa_cons (qe_listOK 2 T.b_list) qa_nil))))))⟩
theorem ok_joined_from (T : Txt K mg) (X_joined_from : Def K mg "joined_from" "joined_from" s_joined_from ["rooms", "start"]) : Has P w K mg base "joined_from" 1 ["rooms", "start"] (spP K F_joined_from 2) := by
  obtain ⟨ff, fd, FF, gg, bb⟩ := X_joined_from
  obtain ⟨W, hw⟩ := w_joined_from T ff
  have o : FnOk P w K mg base CX0 1 ff fd ["rooms", "start"] (spP K (runF 2 10 B_joined_from) 2) := fnP (k := 0) FF sc_joined_from hw
  exact ⟨ff, fd, o, gg, FF.kp, bb⟩
abbrev s_hangs_together : Stmt := topS 33
theorem sc_hangs_together : FnScope ["beams", "rooms"] ["beams", "rooms"] (defScope s_hangs_together) := ⟨rfl, rfl, rfl, by decide +kernel, rfl, by decide +kernel, by decide +kernel⟩
def B_hangs_together : MS := (sRet (eOp2 dEq (eApp F_joined_from (aCons (eVar 1) (aCons (eC (.int 0)) aNil))) (eApp dListRange (aCons (eVar 0) aNil))))
def F_hangs_together : List D → Option D := runF 2 2 B_hangs_together
theorem w_hangs_together (T : Txt K mg) (ff : Addr) {f_joined_from : Addr} {fd_joined_from : FuncData} (O_joined_from : FnOk P w K mg base CX0 1 f_joined_from fd_joined_from ["rooms", "start"] (spP K F_joined_from 2)) (g_joined_from : mg "joined_from" = some (.ref f_joined_from)) (k_joined_from : PySem.W.keepIn K (.ref f_joined_from) = true) (b_joined_from : Binds K fd_joined_from ["rooms", "start"] []) : ∃ W : List Nat, ∀ (cdv : Value) (A : Around) (outer : List Env) (s : Shared) (H : Hp) (E : XK), Room 1 (A.deeper (envOfC "hangs_together" (defScope s_hangs_together) s.heap.objs.size ff cdv)) → QSs (cxOf CX0 P w K mg base ["beams", "rooms"] "hangs_together" (defScope s_hangs_together) ff cdv A outer s H E).nox W (defBody s_hangs_together) B_hangs_together :=
  ⟨_, fun cdv A outer s H E hr => (qs_one (qs_ret (qe_cmp (op_eqD hr.units) d_eq (qe_call O_joined_from (hr.mono (by decide)) g_joined_from k_joined_from b_joined_from (qa_cons (qe_var 1) (qa_cons qe_int qa_nil))) (qe_listRange T.b_list (qrg_1 T.b_range (qe_var 0))))))⟩
theorem ok_hangs_together (T : Txt K mg) (X_hangs_together : Def K mg "hangs_together" "hangs_together" s_hangs_together ["beams", "rooms"]) (H_joined_from : Has P w K mg base "joined_from" 1 ["rooms", "start"] (spP K F_joined_from 2)) : Has P w K mg base "hangs_together" 2 ["beams", "rooms"] (spP K F_hangs_together 2) := by
  obtain ⟨f_joined_from, fd_joined_from, O_joined_from, g_joined_from, k_joined_from, b_joined_from⟩ := H_joined_from
  obtain ⟨ff, fd, FF, gg, bb⟩ := X_hangs_together
  obtain ⟨W, hw⟩ := w_hangs_together T ff O_joined_from g_joined_from k_joined_from b_joined_from
  have o : FnOk P w K mg base CX0 2 ff fd ["beams", "rooms"] (spP K (runF 2 2 B_hangs_together) 2) := fnP (k := 1) FF sc_hangs_together hw
  exact ⟨ff, fd, o, gg, FF.kp, bb⟩
abbrev s_good_plan : Stmt := topS 34
theorem sc_good_plan : FnScope ["thing", "one"] ["thing"] (defScope s_good_plan) := ⟨rfl, rfl, rfl, by decide +kernel, rfl, by decide +kernel, by decide +kernel⟩
def B_good_plan : MS := (sSeq (sIf (cOr (cNot (cV (eOp1 (isaV "tuple") (eVar 0)))) (cOr (cV (eOp2 dNe (eApp dLen (aCons (eVar 0) aNil)) (eC (.int 2)))) (cNot (cV (eApp F_is_whole (aCons (eOp2 dIx (eVar 0) (eC (.int 0))) (aCons (eC (.int 2)) (aCons (eC (.int 6)) aNil)))))))) (sRet (eC (.bool false))) sNil) (sSeq (sIf (cOr (cNot (cV (eOp1 (isaV "tuple") (eOp2 dIx (eVar 0) (eC (.int 1)))))) (cNot (cV (eChain dLe dLe (eC (.int 1)) (eApp dLen (aCons (eOp2 dIx (eVar 0) (eC (.int 1))) aNil)) (eC (.int 15)))))) (sRet (eC (.bool false))) sNil) (sSeq (sIf (cNot (cV (eApp dAll (aCons (eLc [1] (iSeq (eOp2 dIx (eVar 0) (eC (.int 1)))) (gSet 1) cTrue (eApp F_is_room (aCons (eOp2 dIx (eVar 0) (eC (.int 0))) (aCons (eVar 1) aNil)))) aNil)))) (sRet (eC (.bool false))) sNil) (sRet (eApp F_hangs_together (aCons (eOp2 dIx (eVar 0) (eC (.int 0))) (aCons (eOp2 dIx (eVar 0) (eC (.int 1))) aNil)))))))
def F_good_plan : List D → Option D := runF 1 2 B_good_plan
theorem w_good_plan (T : Txt K mg) (ff : Addr) {f_hangs_together : Addr} {fd_hangs_together : FuncData} (O_hangs_together : FnOk P w K mg base CX0 2 f_hangs_together fd_hangs_together ["beams", "rooms"] (spP K F_hangs_together 2)) (g_hangs_together : mg "hangs_together" = some (.ref f_hangs_together)) (k_hangs_together : PySem.W.keepIn K (.ref f_hangs_together) = true) (b_hangs_together : Binds K fd_hangs_together ["beams", "rooms"] []) {f_is_room : Addr} {fd_is_room : FuncData} (O_is_room : FnOk P w K mg base CX0 4 f_is_room fd_is_room ["beams", "thing"] (spP K F_is_room 2)) (g_is_room : mg "is_room" = some (.ref f_is_room)) (k_is_room : PySem.W.keepIn K (.ref f_is_room) = true) (b_is_room : Binds K fd_is_room ["beams", "thing"] []) {f_is_whole : Addr} {fd_is_whole : FuncData} (O_is_whole : FnOk P w K mg base CX0 2 f_is_whole fd_is_whole ["thing", "low", "high"] (spP K F_is_whole 3)) (g_is_whole : mg "is_whole" = some (.ref f_is_whole)) (k_is_whole : PySem.W.keepIn K (.ref f_is_whole) = true) (b_is_whole : Binds K fd_is_whole ["thing", "low", "high"] []) : ∃ W : List Nat, ∀ (cdv : Value) (A : Around) (outer : List Env) (s : Shared) (H : Hp) (E : XK), Room 4 (A.deeper (envOfC "good_plan" (defScope s_good_plan) s.heap.objs.size ff cdv)) → QSs (cxOf CX0 P w K mg base ["thing", "one"] "good_plan" (defScope s_good_plan) ff cdv A outer s H E).nox W (defBody s_good_plan) B_good_plan :=
  ⟨_, fun cdv A outer s H E hr => (qs_cons (qs_if (qw_pt (qw_or (qt_not (qt_val (qe_isa (qe_var 0) T.b_isinstance T.b_tuple))) (qw_or (qt_cmp (op_neD hr.units) d_ne (qe_callB call_len_seq d_len T.b_len (qa_cons (qe_var 0) qa_nil)) qe_int) (qw_or1 (qt_not (qt_val (qe_call O_is_whole (hr.mono (by decide)) g_is_whole k_is_whole b_is_whole (qa_cons (qe_ix (qe_var 0) qe_int) (qa_cons qe_int (qa_cons (qe_glob T.g_BEAMS) qa_nil)))))))))) (qs_one (qs_ret qe_bl)) qs_nil) (qs_cons (qs_if (qw_pt (qw_or (qt_not (qt_val (qe_isa (qe_ix (qe_var 0) qe_int) T.b_isinstance T.b_tuple))) (qw_or1 (qt_not (qt_chain op_le op_le d_le d_le qe_int (qe_callB call_len_seq d_len T.b_len (qa_cons (qe_ix (qe_var 0) qe_int) qa_nil)) (qe_glob T.g_ROOMS)))))) (qs_one (qs_ret qe_bl)) qs_nil) (qs_cons (qs_if (qt_not (qt_val (qe_callB (cr_all rfl) d_all T.b_all (qa_cons (qe_lc [("one", 1)] sc_good_plan.nd (qi_seq (qe_ix (qe_var 0) qe_int)) (blkOk_by (N := ["thing", "one"]) (sc := (defScope s_good_plan)) (by decide +kernel)) (fun _ _ _ _ _ => (qg_name 1 sc_good_plan.nd)) (fun _ _ _ _ _ => qts_nil) (fun _ _ _ _ _ => (qe_call O_is_room (hr.mono (by decide)) g_is_room k_is_room b_is_room (qa_cons (qe_ix (qe_var 0) qe_int) (qa_cons (qe_var 1) qa_nil))))) qa_nil)))) (qs_one (qs_ret qe_bl)) qs_nil) (qs_one (qs_ret (qe_call O_hangs_together (hr.mono (by decide)) g_hangs_together k_hangs_together b_hangs_together (qa_cons (qe_ix (qe_var 0) qe_int) (qa_cons (qe_ix (qe_var 0) qe_int) qa_nil))))))))⟩
theorem ok_good_plan (T : Txt K mg) (X_good_plan : Def K mg "good_plan" "good_plan" s_good_plan ["thing"]) (H_hangs_together : Has P w K mg base "hangs_together" 2 ["beams", "rooms"] (spP K F_hangs_together 2)) (H_is_room : Has P w K mg base "is_room" 4 ["beams", "thing"] (spP K F_is_room 2)) (H_is_whole : Has P w K mg base "is_whole" 2 ["thing", "low", "high"] (spP K F_is_whole 3)) : Has P w K mg base "good_plan" 5 ["thing"] (spP K F_good_plan 1) := by
  obtain ⟨f_hangs_together, fd_hangs_together, O_hangs_together, g_hangs_together, k_hangs_together, b_hangs_together⟩ := H_hangs_together
  obtain ⟨f_is_room, fd_is_room, O_is_room, g_is_room, k_is_room, b_is_room⟩ := H_is_room
  obtain ⟨f_is_whole, fd_is_whole, O_is_whole, g_is_whole, k_is_whole, b_is_whole⟩ := H_is_whole
  obtain ⟨ff, fd, FF, gg, bb⟩ := X_good_plan
  obtain ⟨W, hw⟩ := w_good_plan T ff O_hangs_together g_hangs_together k_hangs_together b_hangs_together O_is_room g_is_room k_is_room b_is_room O_is_whole g_is_whole k_is_whole b_is_whole
  have o : FnOk P w K mg base CX0 5 ff fd ["thing"] (spP K (runF 1 2 B_good_plan) 1) := fnP (k := 4) FF sc_good_plan hw
  exact ⟨ff, fd, o, gg, FF.kp, bb⟩
abbrev s_need_plan : Stmt := topS 35
theorem sc_need_plan : FnScope ["plan"] ["plan"] (defScope s_need_plan) := ⟨rfl, rfl, rfl, by decide +kernel, rfl, by decide +kernel, by decide +kernel⟩
def B_need_plan : MS := (sIf (cNot (cV (eApp F_good_plan (aCons (eVar 0) aNil)))) sNever sNil)
def F_need_plan : List D → Option D := runF 1 1 B_need_plan
theorem w_need_plan (T : Txt K mg) (ff : Addr) {f_good_plan : Addr} {fd_good_plan : FuncData} (O_good_plan : FnOk P w K mg base CX0 5 f_good_plan fd_good_plan ["thing"] (spP K F_good_plan 1)) (g_good_plan : mg "good_plan" = some (.ref f_good_plan)) (k_good_plan : PySem.W.keepIn K (.ref f_good_plan) = true) (b_good_plan : Binds K fd_good_plan ["thing"] []) : ∃ W : List Nat, ∀ (cdv : Value) (A : Around) (outer : List Env) (s : Shared) (H : Hp) (E : XK), Room 5 (A.deeper (envOfC "need_plan" (defScope s_need_plan) s.heap.objs.size ff cdv)) → QSs (cxOf CX0 P w K mg base ["plan"] "need_plan" (defScope s_need_plan) ff cdv A outer s H E).nox W (defBody s_need_plan) B_need_plan :=
  ⟨_, fun cdv A outer s H E hr => (qs_one (qs_if (qt_not (qt_val (qe_call O_good_plan (hr.mono (by decide)) g_good_plan k_good_plan b_good_plan (qa_cons (qe_var 0) qa_nil)))) (qs_one qs_never) qs_nil))⟩
theorem ok_need_plan (T : Txt K mg) (X_need_plan : Def K mg "need_plan" "need_plan" s_need_plan ["plan"]) (H_good_plan : Has P w K mg base "good_plan" 5 ["thing"] (spP K F_good_plan 1)) : Has P w K mg base "need_plan" 6 ["plan"] (spP K F_need_plan 1) := by
  obtain ⟨f_good_plan, fd_good_plan, O_good_plan, g_good_plan, k_good_plan, b_good_plan⟩ := H_good_plan
  obtain ⟨ff, fd, FF, gg, bb⟩ := X_need_plan
  obtain ⟨W, hw⟩ := w_need_plan T ff O_good_plan g_good_plan k_good_plan b_good_plan
  have o : FnOk P w K mg base CX0 6 ff fd ["plan"] (spP K (runF 1 1 B_need_plan) 1) := fnP (k := 5) FF sc_need_plan hw
  exact ⟨ff, fd, o, gg, FF.kp, bb⟩
def BX_need_plan : MXS := (xIfS (cNot (cV (eApp F_good_plan (aCons (eVar 0) aNil)))) (xRaise "NoPlan") (xLift sNil))
def G_need_plan : List D → Option (Ex D) := runX 1 1 BX_need_plan
theorem wX_need_plan (T : Txt K mg) (ff : Addr) {f_good_plan : Addr} {fd_good_plan : FuncData} (O_good_plan : FnOk P w K mg base CX0 5 f_good_plan fd_good_plan ["thing"] (spP K F_good_plan 1)) (g_good_plan : mg "good_plan" = some (.ref f_good_plan)) (k_good_plan : PySem.W.keepIn K (.ref f_good_plan) = true) (b_good_plan : Binds K fd_good_plan ["thing"] []) : ∃ W : List Nat, ∀ (cdv : Value) (A : Around) (outer : List Env) (s : Shared) (H : Hp) (E : XK), Room 5 (A.deeper (envOfC "need_plan" (defScope s_need_plan) s.heap.objs.size ff cdv)) → PSs (cxOf (L2.CX P w) P w K mg base ["plan"] "need_plan" (defScope s_need_plan) ff cdv A outer s H E) (defBody s_need_plan) (tZS K (cmOf mg) (fun cls d _ H => E cls d H) W BX_need_plan) :=
  ⟨_, fun cdv A outer s H E hr => (xss_one (xs_if (qt_not (qt_val (qe_call O_good_plan (hr.mono (by decide)) g_good_plan k_good_plan b_good_plan (qa_cons (qe_var 0) qa_nil)))) (xss_one (xs_raise PySem.F.excBase_ValueError T.c_NoPlan takes_cx)) (xss_lift qs_nil)))⟩
theorem okX_need_plan (T : Txt K mg) (X_need_plan : Def K mg "need_plan" "need_plan" s_need_plan ["plan"]) (H_good_plan : Has P w K mg base "good_plan" 5 ["thing"] (spP K F_good_plan 1)) : HasE P w K mg base "need_plan" 6 ["plan"] (spX K (cmOf mg) G_need_plan 1) := by
  obtain ⟨f_good_plan, fd_good_plan, O_good_plan, g_good_plan, k_good_plan, b_good_plan⟩ := H_good_plan
  obtain ⟨ff, fd, FF, gg, bb⟩ := X_need_plan
  obtain ⟨W, hw⟩ := wX_need_plan T ff O_good_plan g_good_plan k_good_plan b_good_plan
  have o : FnOk P w K mg base (L2.CX P w) 6 ff fd ["plan"] (spX K (cmOf mg) (runX 1 1 BX_need_plan) 1) := fnX (k := 5) FF sc_need_plan hw
  exact ⟨ff, fd, o, gg, FF.kp, bb⟩
abbrev s_solved : Stmt := topS 37
theorem sc_solved : FnScope ["rows", "many", "place", "at", "head", "made", "number", "row", "one", "a", "b"] ["rows"] (defScope s_solved) := ⟨rfl, rfl, rfl, by decide +kernel, rfl, by decide +kernel, by decide +kernel⟩
def B_solved : MS := (sSeq (sAsg (eLenO 0) (gSet 1)) (sSeq (sFor (iApp rng1 (aCons (eVar 1) aNil)) (gSet 2) (sSeq (sAsg (eOp2 dIx (eLc [3] (iApp rng2 (aCons (eVar 2) (aCons (eVar 1) aNil))) (gSet 3) (cV (eOp2 dNe (eOp2 dIx (eIxO 0 (eVar 3)) (eVar 2)) (eC (.tuple [(.int 0), (.int 1)])))) (eVar 3)) (eC (.int 0))) (gSet 3)) (sSeq (sSwap 0 (eVar 2) (eVar 3) (eApp mkTup (aCons (eIxO 0 (eVar 3)) (aCons (eIxO 0 (eVar 2)) aNil)))) (sSeq (sAsg (eLc [8] (iSeq (eIxO 0 (eVar 2))) (gSet 8) cTrue (eApp F_over (aCons (eVar 8) (aCons (eOp2 dIx (eIxO 0 (eVar 2)) (eVar 2)) aNil)))) (gSet 4)) (sSeq (sOwn 5 (oLst aNil)) (sSeq (sFor (iApp enumA (aCons (eVar 0) aNil)) (gTup [(gSet 6), (gSet 7)]) (sDrop (eAppend 5 (eIf (cV (eOp2 dEq (eVar 6) (eVar 2))) (eVar 4) (eLc [9, 10] (iApp zipD (aCons (eVar 7) (aCons (eVar 4) aNil))) (gTup [(gSet 9), (gSet 10)]) cTrue (eApp F_minus (aCons (eVar 9) (aCons (eApp F_times (aCons (eOp2 dIx (eVar 7) (eVar 2)) (aCons (eVar 10) aNil))) aNil)))))))) (sOwn 0 (oVar 5)))))))) (sRet (eLc [7] (iSeq (eVar 0)) (gSet 7) cTrue (eOp2 dIx (eVar 7) (eNeg (eC (.int 1))))))))
def F_solved : List Sl → Option (D × List Sl) := runC 1 11 B_solved
theorem w_solved (T : Txt K mg) (ff : Addr) {f_minus : Addr} {fd_minus : FuncData} (O_minus : FnOk P w K mg base CX0 4 f_minus fd_minus ["one", "other"] (spP K F_minus 2)) (g_minus : mg "minus" = some (.ref f_minus)) (k_minus : PySem.W.keepIn K (.ref f_minus) = true) (b_minus : Binds K fd_minus ["one", "other"] []) {f_over : Addr} {fd_over : FuncData} (O_over : FnOk P w K mg base CX0 3 f_over fd_over ["one", "other"] (spP K F_over 2)) (g_over : mg "over" = some (.ref f_over)) (k_over : PySem.W.keepIn K (.ref f_over) = true) (b_over : Binds K fd_over ["one", "other"] []) {f_times : Addr} {fd_times : FuncData} (O_times : FnOk P w K mg base CX0 3 f_times fd_times ["one", "other"] (spP K F_times 2)) (g_times : mg "times" = some (.ref f_times)) (k_times : PySem.W.keepIn K (.ref f_times) = true) (b_times : Binds K fd_times ["one", "other"] []) : ∃ W : List Nat, ∀ (cdv : Value) (A : Around) (outer : List Env) (s : Shared) (H : Hp) (E : XK), Room 4 (A.deeper (envOfC "solved" (defScope s_solved) s.heap.objs.size ff cdv)) → QSs (cxOf CX0 P w K mg base ["rows", "many", "place", "at", "head", "made", "number", "row", "one", "a", "b"] "solved" (defScope s_solved) ff cdv A outer s H E).nox W (defBody s_solved) B_solved :=
  ⟨_, fun cdv A outer s H E hr => (qs_cons (qs_set 1 sc_solved.nd (qe_lenO 0 T.b_len)) (qs_cons (qs_for (qi_range1 T.b_range (qa_cons (qe_var 1) qa_nil)) (qg_name 2 sc_solved.nd) (qs_cons (qs_set 3 sc_solved.nd (qe_ix (qe_lc [("at", 3)] sc_solved.nd (qi_range2 T.b_range (qa_cons (qe_var 2) (qa_cons (qe_var 1) qa_nil))) (blkOk_by (N := ["rows", "many", "place", "at", "head", "made", "number", "row", "one", "a", "b"]) (sc := (defScope s_solved)) (by decide +kernel)) (fun _ _ _ _ _ => (qg_name 3 sc_solved.nd)) (fun _ _ _ _ _ => (qts_one (qt_cmp (op_neD hr.units) d_ne (qe_ix (qe_ixO 0 (qe_var 3)) (qe_var 2)) (qe_glob T.g_NOUGHT)))) (fun _ _ _ _ _ => (qe_var 3))) qe_int)) (qs_cons (qs_swap 0 (qe_var 2) (qe_var 3) (qe_tup (qa_cons (qe_ixO 0 (qe_var 3)) (qa_cons (qe_ixO 0 (qe_var 2)) qa_nil)))) (qs_cons (qs_setLc 4 [("one", 8)] sc_solved.nd (qi_seq (qe_ixO 0 (qe_var 2))) (blkOk_by (N := ["rows", "many", "place", "at", "head", "made", "number", "row", "one", "a", "b"]) (sc := (defScope s_solved)) (by decide +kernel)) (fun _ _ _ _ _ => (qg_name 8 sc_solved.nd)) (fun _ _ _ _ _ => qts_nil) (fun _ _ _ _ _ => (qe_call O_over (hr.mono (by decide)) g_over k_over b_over (qa_cons (qe_var 8) (qa_cons (qe_ix (qe_ixO 0 (qe_var 2)) (qe_var 2)) qa_nil))))) (qs_cons (qs_own 5 sc_solved.nd (qo_lst qa_nil)) (qs_cons (qs_for (qi_enumA T.b_enumerate (qa_cons (qe_var 0) qa_nil)) (qg_tup (qgs_cons (qg_name 6 sc_solved.nd) (qgs_cons (qg_name 7 sc_solved.nd) qgs_nil))) (qs_one (qs_expr (qe_append 5 (qe_if (qt_cmp (op_eqD hr.units) d_eq (qe_var 6) (qe_var 2)) (qe_var 4) (qe_lc [("a", 9), ("b", 10)] sc_solved.nd (qi_zip T.b_zip (qa_cons (qe_var 7) (qa_cons (qe_var 4) qa_nil))) (blkOk_by (N := ["rows", "many", "place", "at", "head", "made", "number", "row", "one", "a", "b"]) (sc := (defScope s_solved)) (by decide +kernel)) (fun _ _ _ _ _ => (qg_tup (qgs_cons (qg_name 9 sc_solved.nd) (qgs_cons (qg_name 10 sc_solved.nd) qgs_nil)))) (fun _ _ _ _ _ => qts_nil) (fun _ _ _ _ _ => (qe_call O_minus (hr.mono (by decide)) g_minus k_minus b_minus (qa_cons (qe_var 9) (qa_cons (qe_call O_times (hr.mono (by decide)) g_times k_times b_times (qa_cons (qe_ix (qe_var 7) (qe_var 2)) (qa_cons (qe_var 10) qa_nil))) qa_nil)))))))))) (qs_one (qs_own 0 sc_solved.nd (qo_var 5))))))))) (qs_one (qs_ret (qe_lc [("row", 7)] sc_solved.nd (qi_seq (qe_var 0)) (blkOk_by (N := ["rows", "many", "place", "at", "head", "made", "number", "row", "one", "a", "b"]) (sc := (defScope s_solved)) (by decide +kernel)) (fun _ _ _ _ _ => (qg_name 7 sc_solved.nd)) (fun _ _ _ _ _ => qts_nil) (fun _ _ _ _ _ => (qe_ix (qe_var 7) (qe_neg qe_int))))))))⟩
theorem ok_solved (T : Txt K mg) (X_solved : Def K mg "solved" "solved" s_solved ["rows"]) (H_minus : Has P w K mg base "minus" 4 ["one", "other"] (spP K F_minus 2)) (H_over : Has P w K mg base "over" 3 ["one", "other"] (spP K F_over 2)) (H_times : Has P w K mg base "times" 3 ["one", "other"] (spP K F_times 2)) : Has P w K mg base "solved" 5 ["rows"] (spO K F_solved 1) := by
  obtain ⟨f_minus, fd_minus, O_minus, g_minus, k_minus, b_minus⟩ := H_minus
  obtain ⟨f_over, fd_over, O_over, g_over, k_over, b_over⟩ := H_over
  obtain ⟨f_times, fd_times, O_times, g_times, k_times, b_times⟩ := H_times
  obtain ⟨ff, fd, FF, gg, bb⟩ := X_solved
  obtain ⟨W, hw⟩ := w_solved T ff O_minus g_minus k_minus b_minus O_over g_over k_over b_over O_times g_times k_times b_times
  have o : FnOk P w K mg base CX0 5 ff fd ["rows"] (spO K (runC 1 11 B_solved) 1) := fnC (k := 4) FF sc_solved hw
  exact ⟨ff, fd, o, gg, FF.kp, bb⟩
abbrev s_pulls_of : Stmt := topS 38
theorem sc_pulls_of : FnScope ["beams", "rooms", "beam", "row", "one", "other", "proportion", "there"] ["beams", "rooms", "beam"] (defScope s_pulls_of) := ⟨rfl, rfl, rfl, by decide +kernel, rfl, by decide +kernel, by decide +kernel⟩
def B_pulls_of : MS := (sSeq (sOwn 3 (oRep (eApp mkLst (aCons (eC (.tuple [(.int 0), (.int 1)])) aNil)) (eVar 0))) (sSeq (sFor (iSeq (eVar 1)) (gTup [(gSet 4), (gSet 5), (gSet 6)]) (sIf (cV (eOp2 dIn (eVar 2) (eApp mkTup (aCons (eVar 4) (aCons (eVar 5) aNil))))) (sSeq (sAsg (eIf (cV (eOp2 dEq (eVar 2) (eVar 4))) (eVar 5) (eVar 4)) (gSet 7)) (sSeq (sSetIx 3 (eVar 2) (eApp F_plus (aCons (eIxO 3 (eVar 2)) (aCons (eVar 6) aNil)))) (sSetIx 3 (eVar 7) (eApp F_minus (aCons (eIxO 3 (eVar 7)) (aCons (eVar 6) aNil)))))) sNil)) (sRet (eVar 3))))
def F_pulls_of : List D → Option D := runF 3 8 B_pulls_of
theorem w_pulls_of (T : Txt K mg) (ff : Addr) {f_minus : Addr} {fd_minus : FuncData} (O_minus : FnOk P w K mg base CX0 4 f_minus fd_minus ["one", "other"] (spP K F_minus 2)) (g_minus : mg "minus" = some (.ref f_minus)) (k_minus : PySem.W.keepIn K (.ref f_minus) = true) (b_minus : Binds K fd_minus ["one", "other"] []) {f_plus : Addr} {fd_plus : FuncData} (O_plus : FnOk P w K mg base CX0 3 f_plus fd_plus ["one", "other"] (spP K F_plus 2)) (g_plus : mg "plus" = some (.ref f_plus)) (k_plus : PySem.W.keepIn K (.ref f_plus) = true) (b_plus : Binds K fd_plus ["one", "other"] []) : ∃ W : List Nat, ∀ (cdv : Value) (A : Around) (outer : List Env) (s : Shared) (H : Hp) (E : XK), Room 4 (A.deeper (envOfC "pulls_of" (defScope s_pulls_of) s.heap.objs.size ff cdv)) → QSs (cxOf CX0 P w K mg base ["beams", "rooms", "beam", "row", "one", "other", "proportion", "there"] "pulls_of" (defScope s_pulls_of) ff cdv A outer s H E).nox W (defBody s_pulls_of) B_pulls_of :=
  ⟨_, fun cdv A outer s H E hr => (qs_cons (qs_own 3 sc_pulls_of.nd (qo_rep (qe_lst (qa_cons (qe_glob T.g_NOUGHT) qa_nil)) (qe_var 0))) (qs_cons (qs_for (qi_seq (qe_var 1)) (qg_tup (qgs_cons (qg_name 4 sc_pulls_of.nd) (qgs_cons (qg_name 5 sc_pulls_of.nd) (qgs_cons (qg_name 6 sc_pulls_of.nd) qgs_nil)))) (qs_one (qs_if (qt_cmp op_in_seq d_in (qe_var 2) (qe_tup (qa_cons (qe_var 4) (qa_cons (qe_var 5) qa_nil)))) (qs_cons (qs_set 7 sc_pulls_of.nd (qe_if (qt_cmp (op_eqD hr.units) d_eq (qe_var 2) (qe_var 4)) (qe_var 5) (qe_var 4))) (qs_cons (qs_setIx 3 (qe_var 2) (qe_call O_plus (hr.mono (by decide)) g_plus k_plus b_plus (qa_cons (qe_ixO 3 (qe_var 2)) (qa_cons (qe_var 6) qa_nil)))) (qs_one (qs_setIx 3 (qe_var 7) (qe_call O_minus (hr.mono (by decide)) g_minus k_minus b_minus (qa_cons (qe_ixO 3 (qe_var 7)) (qa_cons (qe_var 6) qa_nil))))))) qs_nil))) (qs_one (qs_ret (qe_var 3)))))⟩
theorem ok_pulls_of (T : Txt K mg) (X_pulls_of : Def K mg "pulls_of" "pulls_of" s_pulls_of ["beams", "rooms", "beam"]) (H_minus : Has P w K mg base "minus" 4 ["one", "other"] (spP K F_minus 2)) (H_plus : Has P w K mg base "plus" 3 ["one", "other"] (spP K F_plus 2)) : Has P w K mg base "pulls_of" 5 ["beams", "rooms", "beam"] (spP K F_pulls_of 3) := by
  obtain ⟨f_minus, fd_minus, O_minus, g_minus, k_minus, b_minus⟩ := H_minus
  obtain ⟨f_plus, fd_plus, O_plus, g_plus, k_plus, b_plus⟩ := H_plus
  obtain ⟨ff, fd, FF, gg, bb⟩ := X_pulls_of
  obtain ⟨W, hw⟩ := w_pulls_of T ff O_minus g_minus k_minus b_minus O_plus g_plus k_plus b_plus
  have o : FnOk P w K mg base CX0 5 ff fd ["beams", "rooms", "beam"] (spP K (runF 3 8 B_pulls_of) 3) := fnP (k := 4) FF sc_pulls_of hw
  exact ⟨ff, fd, o, gg, FF.kp, bb⟩
abbrev s_levels_by : Stmt := topS 39
theorem sc_levels_by : FnScope ["beams", "rooms", "fixed", "leaving", "free", "rows", "beam", "found", "made", "row", "goal", "other", "level"] ["beams", "rooms", "fixed", "leaving"] (defScope s_levels_by) := ⟨rfl, rfl, rfl, by decide +kernel, rfl, by decide +kernel, by decide +kernel⟩
def B_levels_by : MS := (sSeq (sAsg (eLc [6] (iApp rng1 (aCons (eVar 0) aNil)) (gSet 6) (cV (eOp2 dNotInK (eVar 6) (eVar 2))) (eVar 6)) (gSet 4)) (sSeq (sOwn 5 (oLst aNil)) (sSeq (sFor (iSeq (eVar 4)) (gSet 6) (sSeq (sAsg (eApp F_pulls_of (aCons (eVar 0) (aCons (eVar 1) (aCons (eVar 6) aNil)))) (gSet 9)) (sSeq (sAsg (eOp2 dIx (eVar 3) (eVar 6)) (gSet 10)) (sSeq (sFor (iKeysD (eVar 2)) (gSet 11) (sAsg (eApp F_minus (aCons (eVar 10) (aCons (eApp F_times (aCons (eOp2 dIx (eVar 9) (eVar 11)) (aCons (eOp2 dIxD (eVar 2) (eVar 11)) aNil))) aNil))) (gSet 10))) (sDrop (eAppend 5 (eOp2 dAdd (eLc [11] (iSeq (eVar 4)) (gSet 11) cTrue (eOp2 dIx (eVar 9) (eVar 11))) (eApp mkLst (aCons (eVar 10) aNil))))))))) (sSeq (sAsg (eAppO F_solved (yVar 5 yNil)) (gSet 7)) (sSeq (sOwn 8 (oRep (eApp mkLst (aCons (eC (.tuple [(.int 0), (.int 1)])) aNil)) (eVar 0))) (sSeq (sFor (iKeysD (eVar 2)) (gSet 6) (sSetIx 8 (eVar 6) (eOp2 dIxD (eVar 2) (eVar 6)))) (sSeq (sFor (iApp zipD (aCons (eVar 4) (aCons (eVar 7) aNil))) (gTup [(gSet 6), (gSet 12)]) (sSetIx 8 (eVar 6) (eVar 12))) (sRet (eApp dTuple (aCons (eVar 8) aNil))))))))))
def F_levels_by : List D → Option D := runF 4 13 B_levels_by
theorem w_levels_by (T : Txt K mg) (ff : Addr) {f_minus : Addr} {fd_minus : FuncData} (O_minus : FnOk P w K mg base CX0 4 f_minus fd_minus ["one", "other"] (spP K F_minus 2)) (g_minus : mg "minus" = some (.ref f_minus)) (k_minus : PySem.W.keepIn K (.ref f_minus) = true) (b_minus : Binds K fd_minus ["one", "other"] []) {f_pulls_of : Addr} {fd_pulls_of : FuncData} (O_pulls_of : FnOk P w K mg base CX0 5 f_pulls_of fd_pulls_of ["beams", "rooms", "beam"] (spP K F_pulls_of 3)) (g_pulls_of : mg "pulls_of" = some (.ref f_pulls_of)) (k_pulls_of : PySem.W.keepIn K (.ref f_pulls_of) = true) (b_pulls_of : Binds K fd_pulls_of ["beams", "rooms", "beam"] []) {f_solved : Addr} {fd_solved : FuncData} (O_solved : FnOk P w K mg base CX0 5 f_solved fd_solved ["rows"] (spO K F_solved 1)) (g_solved : mg "solved" = some (.ref f_solved)) (k_solved : PySem.W.keepIn K (.ref f_solved) = true) (b_solved : Binds K fd_solved ["rows"] []) {f_times : Addr} {fd_times : FuncData} (O_times : FnOk P w K mg base CX0 3 f_times fd_times ["one", "other"] (spP K F_times 2)) (g_times : mg "times" = some (.ref f_times)) (k_times : PySem.W.keepIn K (.ref f_times) = true) (b_times : Binds K fd_times ["one", "other"] []) : ∃ W : List Nat, ∀ (cdv : Value) (A : Around) (outer : List Env) (s : Shared) (H : Hp) (E : XK), Room 5 (A.deeper (envOfC "levels_by" (defScope s_levels_by) s.heap.objs.size ff cdv)) → QSs (cxOf CX0 P w K mg base ["beams", "rooms", "fixed", "leaving", "free", "rows", "beam", "found", "made", "row", "goal", "other", "level"] "levels_by" (defScope s_levels_by) ff cdv A outer s H E).nox W (defBody s_levels_by) B_levels_by :=
  ⟨_, fun cdv A outer s H E hr => (qs_cons (qs_setLc 4 [("beam", 6)] sc_levels_by.nd (qi_range1 T.b_range (qa_cons (qe_var 0) qa_nil)) (blkOk_by (N := ["beams", "rooms", "fixed", "leaving", "free", "rows", "beam", "found", "made", "row", "goal", "other", "level"]) (sc := (defScope s_levels_by)) (by decide +kernel)) (fun _ _ _ _ _ => (qg_name 6 sc_levels_by.nd)) (fun _ _ _ _ _ => (qts_one (qt_notInK hr (qe_var 6) (qe_var 2)))) (fun _ _ _ _ _ => (qe_var 6))) (qs_cons (qs_own 5 sc_levels_by.nd (qo_lst qa_nil)) (qs_cons (qs_for (qi_seq (qe_var 4)) (qg_name 6 sc_levels_by.nd) (qs_cons (qs_set 9 sc_levels_by.nd (qe_call O_pulls_of (hr.mono (by decide)) g_pulls_of k_pulls_of b_pulls_of (qa_cons (qe_var 0) (qa_cons (qe_var 1) (qa_cons (qe_var 6) qa_nil))))) (qs_cons (qs_set 10 sc_levels_by.nd (qe_ix (qe_var 3) (qe_var 6))) (qs_cons (qs_for (qi_keysD (qe_var 2)) (qg_name 11 sc_levels_by.nd) (qs_one (qs_set 10 sc_levels_by.nd (qe_call O_minus (hr.mono (by decide)) g_minus k_minus b_minus (qa_cons (qe_var 10) (qa_cons (qe_call O_times (hr.mono (by decide)) g_times k_times b_times (qa_cons (qe_ix (qe_var 9) (qe_var 11)) (qa_cons (qe_ixD hr (qe_var 2) (qe_var 11)) qa_nil))) qa_nil)))))) (qs_one (qs_expr (qe_append 5 (qe_add (qe_lc [("other", 11)] sc_levels_by.nd (qi_seq (qe_var 4)) (blkOk_by (N := ["beams", "rooms", "fixed", "leaving", "free", "rows", "beam", "found", "made", "row", "goal", "other", "level"]) (sc := (defScope s_levels_by)) (by decide +kernel)) (fun _ _ _ _ _ => (qg_name 11 sc_levels_by.nd)) (fun _ _ _ _ _ => qts_nil) (fun _ _ _ _ _ => (qe_ix (qe_var 9) (qe_var 11)))) (qe_lst (qa_cons (qe_var 10) qa_nil)))))))))) (qs_cons (qs_set 7 sc_levels_by.nd (qe_callO O_solved (hr.mono (by decide)) g_solved k_solved b_solved (qy_var 5 qy_nil) (hF := runC_ok))) (qs_cons (qs_own 8 sc_levels_by.nd (qo_rep (qe_lst (qa_cons (qe_glob T.g_NOUGHT) qa_nil)) (qe_var 0))) (qs_cons (qs_for (qi_keysD (qe_var 2)) (qg_name 6 sc_levels_by.nd) (qs_one (qs_setIx 8 (qe_var 6) (qe_ixD hr (qe_var 2) (qe_var 6))))) (qs_cons (qs_for (qi_zip T.b_zip (qa_cons (qe_var 4) (qa_cons (qe_var 7) qa_nil))) (qg_tup (qgs_cons (qg_name 6 sc_levels_by.nd) (qgs_cons (qg_name 12 sc_levels_by.nd) qgs_nil))) (qs_one (qs_setIx 8 (qe_var 6) (qe_var 12)))) (qs_one (qs_ret (qe_callTy call_tuple_of d_tuple T.b_tuple (qa_cons (qe_var 8) qa_nil)))))))))))⟩
theorem ok_levels_by (T : Txt K mg) (X_levels_by : Def K mg "levels_by" "levels_by" s_levels_by ["beams", "rooms", "fixed", "leaving"]) (H_minus : Has P w K mg base "minus" 4 ["one", "other"] (spP K F_minus 2)) (H_pulls_of : Has P w K mg base "pulls_of" 5 ["beams", "rooms", "beam"] (spP K F_pulls_of 3)) (H_solved : Has P w K mg base "solved" 5 ["rows"] (spO K F_solved 1)) (H_times : Has P w K mg base "times" 3 ["one", "other"] (spP K F_times 2)) : Has P w K mg base "levels_by" 6 ["beams", "rooms", "fixed", "leaving"] (spP K F_levels_by 4) := by
  obtain ⟨f_minus, fd_minus, O_minus, g_minus, k_minus, b_minus⟩ := H_minus
  obtain ⟨f_pulls_of, fd_pulls_of, O_pulls_of, g_pulls_of, k_pulls_of, b_pulls_of⟩ := H_pulls_of
  obtain ⟨f_solved, fd_solved, O_solved, g_solved, k_solved, b_solved⟩ := H_solved
  obtain ⟨f_times, fd_times, O_times, g_times, k_times, b_times⟩ := H_times
  obtain ⟨ff, fd, FF, gg, bb⟩ := X_levels_by
  obtain ⟨W, hw⟩ := w_levels_by T ff O_minus g_minus k_minus b_minus O_pulls_of g_pulls_of k_pulls_of b_pulls_of O_solved g_solved k_solved b_solved O_times g_times k_times b_times
  have o : FnOk P w K mg base CX0 6 ff fd ["beams", "rooms", "fixed", "leaving"] (spP K (runF 4 13 B_levels_by) 4) := fnP (k := 5) FF sc_levels_by hw
  exact ⟨ff, fd, o, gg, FF.kp, bb⟩
abbrev s_levels_of : Stmt := topS 40
theorem sc_levels_of : FnScope ["plan", "beams", "rooms"] ["plan"] (defScope s_levels_of) := ⟨rfl, rfl, rfl, by decide +kernel, rfl, by decide +kernel, by decide +kernel⟩
def B_levels_of : MS := (sSeq (sAsg (eVar 0) (gTup [(gSet 1), (gSet 2)])) (sRet (eApp F_levels_by (aCons (eVar 1) (aCons (eVar 2) (aCons (eApp mkDict (aCons (eC (.int 0)) (aCons (eC (.tuple [(.int 0), (.int 1)])) (aCons (eOp2 dSub (eVar 1) (eC (.int 1))) (aCons (eC (.tuple [(.int 1), (.int 1)])) aNil))))) (aCons (eOp2 dMul (eApp mkLst (aCons (eC (.tuple [(.int 0), (.int 1)])) aNil)) (eVar 1)) aNil)))))))
def F_levels_of : List D → Option D := runF 1 3 B_levels_of
theorem w_levels_of (T : Txt K mg) (ff : Addr) {f_levels_by : Addr} {fd_levels_by : FuncData} (O_levels_by : FnOk P w K mg base CX0 6 f_levels_by fd_levels_by ["beams", "rooms", "fixed", "leaving"] (spP K F_levels_by 4)) (g_levels_by : mg "levels_by" = some (.ref f_levels_by)) (k_levels_by : PySem.W.keepIn K (.ref f_levels_by) = true) (b_levels_by : Binds K fd_levels_by ["beams", "rooms", "fixed", "leaving"] []) : ∃ W : List Nat, ∀ (cdv : Value) (A : Around) (outer : List Env) (s : Shared) (H : Hp) (E : XK), Room 6 (A.deeper (envOfC "levels_of" (defScope s_levels_of) s.heap.objs.size ff cdv)) → QSs (cxOf CX0 P w K mg base ["plan", "beams", "rooms"] "levels_of" (defScope s_levels_of) ff cdv A outer s H E).nox W (defBody s_levels_of) B_levels_of :=
  ⟨_, fun cdv A outer s H E hr => (qs_cons (qs_asg (qe_var 0) (qg_tup (qgs_cons (qg_name 1 sc_levels_of.nd) (qgs_cons (qg_name 2 sc_levels_of.nd) qgs_nil)))) (qs_one (qs_ret (qe_call O_levels_by (hr.mono (by decide)) g_levels_by k_levels_by b_levels_by (qa_cons (qe_var 1) (qa_cons (qe_var 2) (qa_cons (qe_dict (qp_cons qe_int (qe_glob T.g_NOUGHT) (qp_cons (qe_sub (qe_var 1) qe_int) (qe_glob T.g_ONE) qp_nil))) (qa_cons (qe_mul (qe_lst (qa_cons (qe_glob T.g_NOUGHT) qa_nil)) (qe_var 1)) qa_nil))))))))⟩
theorem ok_levels_of (T : Txt K mg) (X_levels_of : Def K mg "levels_of" "levels_of" s_levels_of ["plan"]) (H_levels_by : Has P w K mg base "levels_by" 6 ["beams", "rooms", "fixed", "leaving"] (spP K F_levels_by 4)) : Has P w K mg base "levels_of" 7 ["plan"] (spP K F_levels_of 1) := by
  obtain ⟨f_levels_by, fd_levels_by, O_levels_by, g_levels_by, k_levels_by, b_levels_by⟩ := H_levels_by
  obtain ⟨ff, fd, FF, gg, bb⟩ := X_levels_of
  obtain ⟨W, hw⟩ := w_levels_of T ff O_levels_by g_levels_by k_levels_by b_levels_by
  have o : FnOk P w K mg base CX0 7 ff fd ["plan"] (spP K (runF 1 3 B_levels_of) 1) := fnP (k := 6) FF sc_levels_of hw
  exact ⟨ff, fd, o, gg, FF.kp, bb⟩
abbrev s_widths_by : Stmt := topS 41
theorem sc_widths_by : FnScope ["rooms", "some", "one", "other", "proportion"] ["rooms", "some"] (defScope s_widths_by) := ⟨rfl, rfl, rfl, by decide +kernel, rfl, by decide +kernel, by decide +kernel⟩
def B_widths_by : MS := (sRet (eApp dTuple (aCons (eLc [2, 3, 4] (iSeq (eVar 0)) (gTup [(gSet 2), (gSet 3), (gSet 4)]) cTrue (eApp F_times (aCons (eVar 4) (aCons (eApp F_minus (aCons (eOp2 dIx (eVar 1) (eVar 3)) (aCons (eOp2 dIx (eVar 1) (eVar 2)) aNil))) aNil)))) aNil)))
def F_widths_by : List D → Option D := runF 2 5 B_widths_by
theorem w_widths_by (T : Txt K mg) (ff : Addr) {f_minus : Addr} {fd_minus : FuncData} (O_minus : FnOk P w K mg base CX0 4 f_minus fd_minus ["one", "other"] (spP K F_minus 2)) (g_minus : mg "minus" = some (.ref f_minus)) (k_minus : PySem.W.keepIn K (.ref f_minus) = true) (b_minus : Binds K fd_minus ["one", "other"] []) {f_times : Addr} {fd_times : FuncData} (O_times : FnOk P w K mg base CX0 3 f_times fd_times ["one", "other"] (spP K F_times 2)) (g_times : mg "times" = some (.ref f_times)) (k_times : PySem.W.keepIn K (.ref f_times) = true) (b_times : Binds K fd_times ["one", "other"] []) : ∃ W : List Nat, ∀ (cdv : Value) (A : Around) (outer : List Env) (s : Shared) (H : Hp) (E : XK), Room 4 (A.deeper (envOfC "widths_by" (defScope s_widths_by) s.heap.objs.size ff cdv)) → QSs (cxOf CX0 P w K mg base ["rooms", "some", "one", "other", "proportion"] "widths_by" (defScope s_widths_by) ff cdv A outer s H E).nox W (defBody s_widths_by) B_widths_by :=
  ⟨_, fun cdv A outer s H E hr => (qs_one (qs_ret (qe_callTy call_tuple_of d_tuple T.b_tuple (qa_cons (qe_lc [("one", 2), ("other", 3), ("proportion", 4)] sc_widths_by.nd (qi_seq (qe_var 0)) (blkOk_by (N := ["rooms", "some", "one", "other", "proportion"]) (sc := (defScope s_widths_by)) (by decide +kernel)) (fun _ _ _ _ _ => (qg_tup (qgs_cons (qg_name 2 sc_widths_by.nd) (qgs_cons (qg_name 3 sc_widths_by.nd) (qgs_cons (qg_name 4 sc_widths_by.nd) qgs_nil))))) (fun _ _ _ _ _ => qts_nil) (fun _ _ _ _ _ => (qe_call O_times (hr.mono (by decide)) g_times k_times b_times (qa_cons (qe_var 4) (qa_cons (qe_call O_minus (hr.mono (by decide)) g_minus k_minus b_minus (qa_cons (qe_ix (qe_var 1) (qe_var 3)) (qa_cons (qe_ix (qe_var 1) (qe_var 2)) qa_nil))) qa_nil))))) qa_nil))))⟩
theorem ok_widths_by (T : Txt K mg) (X_widths_by : Def K mg "widths_by" "widths_by" s_widths_by ["rooms", "some"]) (H_minus : Has P w K mg base "minus" 4 ["one", "other"] (spP K F_minus 2)) (H_times : Has P w K mg base "times" 3 ["one", "other"] (spP K F_times 2)) : Has P w K mg base "widths_by" 5 ["rooms", "some"] (spP K F_widths_by 2) := by
  obtain ⟨f_minus, fd_minus, O_minus, g_minus, k_minus, b_minus⟩ := H_minus
  obtain ⟨f_times, fd_times, O_times, g_times, k_times, b_times⟩ := H_times
  obtain ⟨ff, fd, FF, gg, bb⟩ := X_widths_by
  obtain ⟨W, hw⟩ := w_widths_by T ff O_minus g_minus k_minus b_minus O_times g_times k_times b_times
  have o : FnOk P w K mg base CX0 5 ff fd ["rooms", "some"] (spP K (runF 2 5 B_widths_by) 2) := fnP (k := 4) FF sc_widths_by hw
  exact ⟨ff, fd, o, gg, FF.kp, bb⟩
abbrev s_hanging : Stmt := topS 42
theorem sc_hanging : FnScope ["rooms", "some", "beam", "parts", "width", "one", "other", "proportion"] ["rooms", "some", "beam"] (defScope s_hanging) := ⟨rfl, rfl, rfl, by decide +kernel, rfl, by decide +kernel, by decide +kernel⟩
def B_hanging : MS := (sSeq (sOwn 3 (oLst aNil)) (sSeq (sFor (iApp zipD (aCons (eVar 0) (aCons (eVar 1) aNil))) (gTup [(gTup [(gSet 5), (gSet 6), (gSet 7)]), (gSet 4)]) (sIf (cV (eOp2 dEq (eVar 2) (eVar 5))) (sDrop (eAppend 3 (eVar 4))) (sIf (cV (eOp2 dEq (eVar 2) (eVar 6))) (sDrop (eAppend 3 (eApp F_less (aCons (eVar 4) aNil)))) sNil))) (sRet (eApp F_total (aCons (eVar 3) aNil)))))
def F_hanging : List D → Option D := runF 3 8 B_hanging
theorem w_hanging (T : Txt K mg) (ff : Addr) {f_less : Addr} {fd_less : FuncData} (O_less : FnOk P w K mg base CX0 1 f_less fd_less ["one"] (spP K F_less 1)) (g_less : mg "less" = some (.ref f_less)) (k_less : PySem.W.keepIn K (.ref f_less) = true) (b_less : Binds K fd_less ["one"] []) {f_total : Addr} {fd_total : FuncData} (O_total : FnOk P w K mg base CX0 4 f_total fd_total ["some"] (spP K F_total 1)) (g_total : mg "total" = some (.ref f_total)) (k_total : PySem.W.keepIn K (.ref f_total) = true) (b_total : Binds K fd_total ["some"] []) : ∃ W : List Nat, ∀ (cdv : Value) (A : Around) (outer : List Env) (s : Shared) (H : Hp) (E : XK), Room 4 (A.deeper (envOfC "hanging" (defScope s_hanging) s.heap.objs.size ff cdv)) → QSs (cxOf CX0 P w K mg base ["rooms", "some", "beam", "parts", "width", "one", "other", "proportion"] "hanging" (defScope s_hanging) ff cdv A outer s H E).nox W (defBody s_hanging) B_hanging :=
  ⟨_, fun cdv A outer s H E hr => (qs_cons (qs_own 3 sc_hanging.nd (qo_lst qa_nil)) (qs_cons (qs_for (qi_zip T.b_zip (qa_cons (qe_var 0) (qa_cons (qe_var 1) qa_nil))) (qg_tup (qgs_cons (qg_tup (qgs_cons (qg_name 5 sc_hanging.nd) (qgs_cons (qg_name 6 sc_hanging.nd) (qgs_cons (qg_name 7 sc_hanging.nd) qgs_nil)))) (qgs_cons (qg_name 4 sc_hanging.nd) qgs_nil))) (qs_one (qs_if (qt_cmp (op_eqD hr.units) d_eq (qe_var 2) (qe_var 5)) (qs_one (qs_expr (qe_append 3 (qe_var 4)))) (qs_one (qs_if (qt_cmp (op_eqD hr.units) d_eq (qe_var 2) (qe_var 6)) (qs_one (qs_expr (qe_append 3 (qe_call O_less (hr.mono (by decide)) g_less k_less b_less (qa_cons (qe_var 4) qa_nil))))) qs_nil))))) (qs_one (qs_ret (qe_call O_total (hr.mono (by decide)) g_total k_total b_total (qa_cons (qe_var 3) qa_nil))))))⟩
theorem ok_hanging (T : Txt K mg) (X_hanging : Def K mg "hanging" "hanging" s_hanging ["rooms", "some", "beam"]) (H_less : Has P w K mg base "less" 1 ["one"] (spP K F_less 1)) (H_total : Has P w K mg base "total" 4 ["some"] (spP K F_total 1)) : Has P w K mg base "hanging" 5 ["rooms", "some", "beam"] (spP K F_hanging 3) := by
  obtain ⟨f_less, fd_less, O_less, g_less, k_less, b_less⟩ := H_less
  obtain ⟨f_total, fd_total, O_total, g_total, k_total, b_total⟩ := H_total
  obtain ⟨ff, fd, FF, gg, bb⟩ := X_hanging
  obtain ⟨W, hw⟩ := w_hanging T ff O_less g_less k_less b_less O_total g_total k_total b_total
  have o : FnOk P w K mg base CX0 5 ff fd ["rooms", "some", "beam"] (spP K (runF 3 8 B_hanging) 3) := fnP (k := 4) FF sc_hanging hw
  exact ⟨ff, fd, o, gg, FF.kp, bb⟩
abbrev s_hall_of : Stmt := topS 43
theorem sc_hall_of : FnScope ["plan"] ["plan"] (defScope s_hall_of) := ⟨rfl, rfl, rfl, by decide +kernel, rfl, by decide +kernel, by decide +kernel⟩
def B_hall_of : MS := (sRet (eApp F_hanging (aCons (eOp2 dIx (eVar 0) (eC (.int 1))) (aCons (eApp F_widths_by (aCons (eOp2 dIx (eVar 0) (eC (.int 1))) (aCons (eApp F_levels_of (aCons (eVar 0) aNil)) aNil))) (aCons (eC (.int 0)) aNil)))))
def F_hall_of : List D → Option D := runF 1 1 B_hall_of
theorem w_hall_of (T : Txt K mg) (ff : Addr) {f_hanging : Addr} {fd_hanging : FuncData} (O_hanging : FnOk P w K mg base CX0 5 f_hanging fd_hanging ["rooms", "some", "beam"] (spP K F_hanging 3)) (g_hanging : mg "hanging" = some (.ref f_hanging)) (k_hanging : PySem.W.keepIn K (.ref f_hanging) = true) (b_hanging : Binds K fd_hanging ["rooms", "some", "beam"] []) {f_levels_of : Addr} {fd_levels_of : FuncData} (O_levels_of : FnOk P w K mg base CX0 7 f_levels_of fd_levels_of ["plan"] (spP K F_levels_of 1)) (g_levels_of : mg "levels_of" = some (.ref f_levels_of)) (k_levels_of : PySem.W.keepIn K (.ref f_levels_of) = true) (b_levels_of : Binds K fd_levels_of ["plan"] []) {f_widths_by : Addr} {fd_widths_by : FuncData} (O_widths_by : FnOk P w K mg base CX0 5 f_widths_by fd_widths_by ["rooms", "some"] (spP K F_widths_by 2)) (g_widths_by : mg "widths_by" = some (.ref f_widths_by)) (k_widths_by : PySem.W.keepIn K (.ref f_widths_by) = true) (b_widths_by : Binds K fd_widths_by ["rooms", "some"] []) : ∃ W : List Nat, ∀ (cdv : Value) (A : Around) (outer : List Env) (s : Shared) (H : Hp) (E : XK), Room 7 (A.deeper (envOfC "hall_of" (defScope s_hall_of) s.heap.objs.size ff cdv)) → QSs (cxOf CX0 P w K mg base ["plan"] "hall_of" (defScope s_hall_of) ff cdv A outer s H E).nox W (defBody s_hall_of) B_hall_of :=
  ⟨_, fun cdv A outer s H E hr => (qs_one (qs_ret (qe_call O_hanging (hr.mono (by decide)) g_hanging k_hanging b_hanging (qa_cons (qe_ix (qe_var 0) qe_int) (qa_cons (qe_call O_widths_by (hr.mono (by decide)) g_widths_by k_widths_by b_widths_by (qa_cons (qe_ix (qe_var 0) qe_int) (qa_cons (qe_call O_levels_of (hr.mono (by decide)) g_levels_of k_levels_of b_levels_of (qa_cons (qe_var 0) qa_nil)) qa_nil))) (qa_cons qe_int qa_nil))))))⟩
theorem ok_hall_of (T : Txt K mg) (X_hall_of : Def K mg "hall_of" "hall_of" s_hall_of ["plan"]) (H_hanging : Has P w K mg base "hanging" 5 ["rooms", "some", "beam"] (spP K F_hanging 3)) (H_levels_of : Has P w K mg base "levels_of" 7 ["plan"] (spP K F_levels_of 1)) (H_widths_by : Has P w K mg base "widths_by" 5 ["rooms", "some"] (spP K F_widths_by 2)) : Has P w K mg base "hall_of" 8 ["plan"] (spP K F_hall_of 1) := by
  obtain ⟨f_hanging, fd_hanging, O_hanging, g_hanging, k_hanging, b_hanging⟩ := H_hanging
  obtain ⟨f_levels_of, fd_levels_of, O_levels_of, g_levels_of, k_levels_of, b_levels_of⟩ := H_levels_of
  obtain ⟨f_widths_by, fd_widths_by, O_widths_by, g_widths_by, k_widths_by, b_widths_by⟩ := H_widths_by
  obtain ⟨ff, fd, FF, gg, bb⟩ := X_hall_of
  obtain ⟨W, hw⟩ := w_hall_of T ff O_hanging g_hanging k_hanging b_hanging O_levels_of g_levels_of k_levels_of b_levels_of O_widths_by g_widths_by k_widths_by b_widths_by
  have o : FnOk P w K mg base CX0 8 ff fd ["plan"] (spP K (runF 1 1 B_hall_of) 1) := fnP (k := 7) FF sc_hall_of hw
  exact ⟨ff, fd, o, gg, FF.kp, bb⟩
abbrev s_with_room : Stmt := topS 45
theorem sc_with_room : FnScope ["plan", "room"] ["plan", "room"] (defScope s_with_room) := ⟨rfl, rfl, rfl, by decide +kernel, rfl, by decide +kernel, by decide +kernel⟩
def B_with_room : MS := (sSeq (sDrop (eApp F_need_plan (aCons (eVar 0) aNil))) (sSeq (sIf (cOr (cNot (cV (eApp F_is_room (aCons (eOp2 dIx (eVar 0) (eC (.int 0))) (aCons (eVar 1) aNil))))) (cV (eOp2 dEq (eApp dLen (aCons (eOp2 dIx (eVar 0) (eC (.int 1))) aNil)) (eC (.int 15))))) sNever sNil) (sRet (eApp mkTup (aCons (eOp2 dIx (eVar 0) (eC (.int 0))) (aCons (eOp2 dAdd (eOp2 dIx (eVar 0) (eC (.int 1))) (eApp mkTup (aCons (eVar 1) aNil))) aNil))))))
def F_with_room : List D → Option D := runF 2 2 B_with_room
theorem w_with_room (T : Txt K mg) (ff : Addr) {f_is_room : Addr} {fd_is_room : FuncData} (O_is_room : FnOk P w K mg base CX0 4 f_is_room fd_is_room ["beams", "thing"] (spP K F_is_room 2)) (g_is_room : mg "is_room" = some (.ref f_is_room)) (k_is_room : PySem.W.keepIn K (.ref f_is_room) = true) (b_is_room : Binds K fd_is_room ["beams", "thing"] []) {f_need_plan : Addr} {fd_need_plan : FuncData} (O_need_plan : FnOk P w K mg base CX0 6 f_need_plan fd_need_plan ["plan"] (spP K F_need_plan 1)) (g_need_plan : mg "need_plan" = some (.ref f_need_plan)) (k_need_plan : PySem.W.keepIn K (.ref f_need_plan) = true) (b_need_plan : Binds K fd_need_plan ["plan"] []) : ∃ W : List Nat, ∀ (cdv : Value) (A : Around) (outer : List Env) (s : Shared) (H : Hp) (E : XK), Room 6 (A.deeper (envOfC "with_room" (defScope s_with_room) s.heap.objs.size ff cdv)) → QSs (cxOf CX0 P w K mg base ["plan", "room"] "with_room" (defScope s_with_room) ff cdv A outer s H E).nox W (defBody s_with_room) B_with_room :=
  ⟨_, fun cdv A outer s H E hr => (qs_cons (qs_expr (qe_call O_need_plan (hr.mono (by decide)) g_need_plan k_need_plan b_need_plan (qa_cons (qe_var 0) qa_nil))) (qs_cons (qs_if (qw_pt (qw_or (qt_not (qt_val (qe_call O_is_room (hr.mono (by decide)) g_is_room k_is_room b_is_room (qa_cons (qe_ix (qe_var 0) qe_int) (qa_cons (qe_var 1) qa_nil))))) (qw_or1 (qt_cmp (op_eqD hr.units) d_eq (qe_callB call_len_seq d_len T.b_len (qa_cons (qe_ix (qe_var 0) qe_int) qa_nil)) (qe_glob T.g_ROOMS))))) (qs_one qs_never) qs_nil) (qs_one (qs_ret (qe_tup (qa_cons (qe_ix (qe_var 0) qe_int) (qa_cons (qe_add (qe_ix (qe_var 0) qe_int) (qe_tup (qa_cons (qe_var 1) qa_nil))) qa_nil)))))))⟩
theorem ok_with_room (T : Txt K mg) (X_with_room : Def K mg "with_room" "with_room" s_with_room ["plan", "room"]) (H_is_room : Has P w K mg base "is_room" 4 ["beams", "thing"] (spP K F_is_room 2)) (H_need_plan : Has P w K mg base "need_plan" 6 ["plan"] (spP K F_need_plan 1)) : Has P w K mg base "with_room" 7 ["plan", "room"] (spP K F_with_room 2) := by
  obtain ⟨f_is_room, fd_is_room, O_is_room, g_is_room, k_is_room, b_is_room⟩ := H_is_room
  obtain ⟨f_need_plan, fd_need_plan, O_need_plan, g_need_plan, k_need_plan, b_need_plan⟩ := H_need_plan
  obtain ⟨ff, fd, FF, gg, bb⟩ := X_with_room
  obtain ⟨W, hw⟩ := w_with_room T ff O_is_room g_is_room k_is_room b_is_room O_need_plan g_need_plan k_need_plan b_need_plan
  have o : FnOk P w K mg base CX0 7 ff fd ["plan", "room"] (spP K (runF 2 2 B_with_room) 2) := fnP (k := 6) FF sc_with_room hw
  exact ⟨ff, fd, o, gg, FF.kp, bb⟩
def BX_with_room : MXS := (xCons (xDrop (xApp G_need_plan (aCons (eVar 0) aNil))) (xCons (xIfS (cOr (cNot (cV (eApp F_is_room (aCons (eOp2 dIx (eVar 0) (eC (.int 0))) (aCons (eVar 1) aNil))))) (cV (eOp2 dEq (eApp dLen (aCons (eOp2 dIx (eVar 0) (eC (.int 1))) aNil)) (eC (.int 15))))) (xRaise "NoRoom") (xLift sNil)) (xLift (sRet (eApp mkTup (aCons (eOp2 dIx (eVar 0) (eC (.int 0))) (aCons (eOp2 dAdd (eOp2 dIx (eVar 0) (eC (.int 1))) (eApp mkTup (aCons (eVar 1) aNil))) aNil)))))))
def G_with_room : List D → Option (Ex D) := runX 2 2 BX_with_room
theorem wX_with_room (T : Txt K mg) (ff : Addr) {f_is_room : Addr} {fd_is_room : FuncData} (O_is_room : FnOk P w K mg base CX0 4 f_is_room fd_is_room ["beams", "thing"] (spP K F_is_room 2)) (g_is_room : mg "is_room" = some (.ref f_is_room)) (k_is_room : PySem.W.keepIn K (.ref f_is_room) = true) (b_is_room : Binds K fd_is_room ["beams", "thing"] []) {fX_need_plan : Addr} {fdX_need_plan : FuncData} (OX_need_plan : FnOk P w K mg base (L2.CX P w) 6 fX_need_plan fdX_need_plan ["plan"] (spX K (cmOf mg) G_need_plan 1)) (gX_need_plan : mg "need_plan" = some (.ref fX_need_plan)) (kX_need_plan : PySem.W.keepIn K (.ref fX_need_plan) = true) (bX_need_plan : Binds K fdX_need_plan ["plan"] []) : ∃ W : List Nat, ∀ (cdv : Value) (A : Around) (outer : List Env) (s : Shared) (H : Hp) (E : XK), Room 6 (A.deeper (envOfC "with_room" (defScope s_with_room) s.heap.objs.size ff cdv)) → PSs (cxOf (L2.CX P w) P w K mg base ["plan", "room"] "with_room" (defScope s_with_room) ff cdv A outer s H E) (defBody s_with_room) (tZS K (cmOf mg) (fun cls d _ H => E cls d H) W BX_with_room) :=
  ⟨_, fun cdv A outer s H E hr => (xss_cons (xs_expr (xe_call takes_cx OX_need_plan (hr.mono (by decide)) gX_need_plan kX_need_plan bX_need_plan (qa_cons (qe_var 0) qa_nil))) (xss_cons (xs_if (qw_pt (qw_or (qt_not (qt_val (qe_call O_is_room (hr.mono (by decide)) g_is_room k_is_room b_is_room (qa_cons (qe_ix (qe_var 0) qe_int) (qa_cons (qe_var 1) qa_nil))))) (qw_or1 (qt_cmp (op_eqD hr.units) d_eq (qe_callB call_len_seq d_len T.b_len (qa_cons (qe_ix (qe_var 0) qe_int) qa_nil)) (qe_glob T.g_ROOMS))))) (xss_one (xs_raise PySem.F.excBase_ValueError T.c_NoRoom takes_cx)) (xss_lift qs_nil)) (xss_one (xs_lift (qs_ret (qe_tup (qa_cons (qe_ix (qe_var 0) qe_int) (qa_cons (qe_add (qe_ix (qe_var 0) qe_int) (qe_tup (qa_cons (qe_var 1) qa_nil))) qa_nil))))))))⟩
theorem okX_with_room (T : Txt K mg) (X_with_room : Def K mg "with_room" "with_room" s_with_room ["plan", "room"]) (H_is_room : Has P w K mg base "is_room" 4 ["beams", "thing"] (spP K F_is_room 2)) (HX_need_plan : HasE P w K mg base "need_plan" 6 ["plan"] (spX K (cmOf mg) G_need_plan 1)) : HasE P w K mg base "with_room" 7 ["plan", "room"] (spX K (cmOf mg) G_with_room 2) := by
  obtain ⟨f_is_room, fd_is_room, O_is_room, g_is_room, k_is_room, b_is_room⟩ := H_is_room
  obtain ⟨fX_need_plan, fdX_need_plan, OX_need_plan, gX_need_plan, kX_need_plan, bX_need_plan⟩ := HX_need_plan
  obtain ⟨ff, fd, FF, gg, bb⟩ := X_with_room
  obtain ⟨W, hw⟩ := wX_with_room T ff O_is_room g_is_room k_is_room b_is_room OX_need_plan gX_need_plan kX_need_plan bX_need_plan
  have o : FnOk P w K mg base (L2.CX P w) 7 ff fd ["plan", "room"] (spX K (cmOf mg) (runX 2 2 BX_with_room) 2) := fnX (k := 6) FF sc_with_room hw
  exact ⟨ff, fd, o, gg, FF.kp, bb⟩
abbrev s_need_number : Stmt := topS 46
theorem sc_need_number : FnScope ["plan", "number"] ["plan", "number"] (defScope s_need_number) := ⟨rfl, rfl, rfl, by decide +kernel, rfl, by decide +kernel, by decide +kernel⟩
def B_need_number : MS := (sSeq (sDrop (eApp F_need_plan (aCons (eVar 0) aNil))) (sIf (cNot (cV (eApp F_is_whole (aCons (eVar 1) (aCons (eC (.int 0)) (aCons (eOp2 dSub (eApp dLen (aCons (eOp2 dIx (eVar 0) (eC (.int 1))) aNil)) (eC (.int 1))) aNil)))))) sNever sNil))
def F_need_number : List D → Option D := runF 2 2 B_need_number
theorem w_need_number (T : Txt K mg) (ff : Addr) {f_is_whole : Addr} {fd_is_whole : FuncData} (O_is_whole : FnOk P w K mg base CX0 2 f_is_whole fd_is_whole ["thing", "low", "high"] (spP K F_is_whole 3)) (g_is_whole : mg "is_whole" = some (.ref f_is_whole)) (k_is_whole : PySem.W.keepIn K (.ref f_is_whole) = true) (b_is_whole : Binds K fd_is_whole ["thing", "low", "high"] []) {f_need_plan : Addr} {fd_need_plan : FuncData} (O_need_plan : FnOk P w K mg base CX0 6 f_need_plan fd_need_plan ["plan"] (spP K F_need_plan 1)) (g_need_plan : mg "need_plan" = some (.ref f_need_plan)) (k_need_plan : PySem.W.keepIn K (.ref f_need_plan) = true) (b_need_plan : Binds K fd_need_plan ["plan"] []) : ∃ W : List Nat, ∀ (cdv : Value) (A : Around) (outer : List Env) (s : Shared) (H : Hp) (E : XK), Room 6 (A.deeper (envOfC "need_number" (defScope s_need_number) s.heap.objs.size ff cdv)) → QSs (cxOf CX0 P w K mg base ["plan", "number"] "need_number" (defScope s_need_number) ff cdv A outer s H E).nox W (defBody s_need_number) B_need_number :=
  ⟨_, fun cdv A outer s H E hr => (qs_cons (qs_expr (qe_call O_need_plan (hr.mono (by decide)) g_need_plan k_need_plan b_need_plan (qa_cons (qe_var 0) qa_nil))) (qs_one (qs_if (qt_not (qt_val (qe_call O_is_whole (hr.mono (by decide)) g_is_whole k_is_whole b_is_whole (qa_cons (qe_var 1) (qa_cons qe_int (qa_cons (qe_sub (qe_callB call_len_seq d_len T.b_len (qa_cons (qe_ix (qe_var 0) qe_int) qa_nil)) qe_int) qa_nil)))))) (qs_one qs_never) qs_nil)))⟩
theorem ok_need_number (T : Txt K mg) (X_need_number : Def K mg "need_number" "need_number" s_need_number ["plan", "number"]) (H_is_whole : Has P w K mg base "is_whole" 2 ["thing", "low", "high"] (spP K F_is_whole 3)) (H_need_plan : Has P w K mg base "need_plan" 6 ["plan"] (spP K F_need_plan 1)) : Has P w K mg base "need_number" 7 ["plan", "number"] (spP K F_need_number 2) := by
  obtain ⟨f_is_whole, fd_is_whole, O_is_whole, g_is_whole, k_is_whole, b_is_whole⟩ := H_is_whole
  obtain ⟨f_need_plan, fd_need_plan, O_need_plan, g_need_plan, k_need_plan, b_need_plan⟩ := H_need_plan
  obtain ⟨ff, fd, FF, gg, bb⟩ := X_need_number
  obtain ⟨W, hw⟩ := w_need_number T ff O_is_whole g_is_whole k_is_whole b_is_whole O_need_plan g_need_plan k_need_plan b_need_plan
  have o : FnOk P w K mg base CX0 7 ff fd ["plan", "number"] (spP K (runF 2 2 B_need_number) 2) := fnP (k := 6) FF sc_need_number hw
  exact ⟨ff, fd, o, gg, FF.kp, bb⟩
def BX_need_number : MXS := (xCons (xDrop (xApp G_need_plan (aCons (eVar 0) aNil))) (xIfS (cNot (cV (eApp F_is_whole (aCons (eVar 1) (aCons (eC (.int 0)) (aCons (eOp2 dSub (eApp dLen (aCons (eOp2 dIx (eVar 0) (eC (.int 1))) aNil)) (eC (.int 1))) aNil)))))) (xRaise "NoRoom") (xLift sNil)))
def G_need_number : List D → Option (Ex D) := runX 2 2 BX_need_number
theorem wX_need_number (T : Txt K mg) (ff : Addr) {f_is_whole : Addr} {fd_is_whole : FuncData} (O_is_whole : FnOk P w K mg base CX0 2 f_is_whole fd_is_whole ["thing", "low", "high"] (spP K F_is_whole 3)) (g_is_whole : mg "is_whole" = some (.ref f_is_whole)) (k_is_whole : PySem.W.keepIn K (.ref f_is_whole) = true) (b_is_whole : Binds K fd_is_whole ["thing", "low", "high"] []) {fX_need_plan : Addr} {fdX_need_plan : FuncData} (OX_need_plan : FnOk P w K mg base (L2.CX P w) 6 fX_need_plan fdX_need_plan ["plan"] (spX K (cmOf mg) G_need_plan 1)) (gX_need_plan : mg "need_plan" = some (.ref fX_need_plan)) (kX_need_plan : PySem.W.keepIn K (.ref fX_need_plan) = true) (bX_need_plan : Binds K fdX_need_plan ["plan"] []) : ∃ W : List Nat, ∀ (cdv : Value) (A : Around) (outer : List Env) (s : Shared) (H : Hp) (E : XK), Room 6 (A.deeper (envOfC "need_number" (defScope s_need_number) s.heap.objs.size ff cdv)) → PSs (cxOf (L2.CX P w) P w K mg base ["plan", "number"] "need_number" (defScope s_need_number) ff cdv A outer s H E) (defBody s_need_number) (tZS K (cmOf mg) (fun cls d _ H => E cls d H) W BX_need_number) :=
  ⟨_, fun cdv A outer s H E hr => (xss_cons (xs_expr (xe_call takes_cx OX_need_plan (hr.mono (by decide)) gX_need_plan kX_need_plan bX_need_plan (qa_cons (qe_var 0) qa_nil))) (xss_one (xs_if (qt_not (qt_val (qe_call O_is_whole (hr.mono (by decide)) g_is_whole k_is_whole b_is_whole (qa_cons (qe_var 1) (qa_cons qe_int (qa_cons (qe_sub (qe_callB call_len_seq d_len T.b_len (qa_cons (qe_ix (qe_var 0) qe_int) qa_nil)) qe_int) qa_nil)))))) (xss_one (xs_raise PySem.F.excBase_ValueError T.c_NoRoom takes_cx)) (xss_lift qs_nil))))⟩
theorem okX_need_number (T : Txt K mg) (X_need_number : Def K mg "need_number" "need_number" s_need_number ["plan", "number"]) (H_is_whole : Has P w K mg base "is_whole" 2 ["thing", "low", "high"] (spP K F_is_whole 3)) (HX_need_plan : HasE P w K mg base "need_plan" 6 ["plan"] (spX K (cmOf mg) G_need_plan 1)) : HasE P w K mg base "need_number" 7 ["plan", "number"] (spX K (cmOf mg) G_need_number 2) := by
  obtain ⟨f_is_whole, fd_is_whole, O_is_whole, g_is_whole, k_is_whole, b_is_whole⟩ := H_is_whole
  obtain ⟨fX_need_plan, fdX_need_plan, OX_need_plan, gX_need_plan, kX_need_plan, bX_need_plan⟩ := HX_need_plan
  obtain ⟨ff, fd, FF, gg, bb⟩ := X_need_number
  obtain ⟨W, hw⟩ := wX_need_number T ff O_is_whole g_is_whole k_is_whole b_is_whole OX_need_plan gX_need_plan kX_need_plan bX_need_plan
  have o : FnOk P w K mg base (L2.CX P w) 7 ff fd ["plan", "number"] (spX K (cmOf mg) (runX 2 2 BX_need_number) 2) := fnX (k := 6) FF sc_need_number hw
  exact ⟨ff, fd, o, gg, FF.kp, bb⟩
abbrev s_without_room : Stmt := topS 47
theorem sc_without_room : FnScope ["plan", "number", "rooms"] ["plan", "number"] (defScope s_without_room) := ⟨rfl, rfl, rfl, by decide +kernel, rfl, by decide +kernel, by decide +kernel⟩
def B_without_room : MS := (sSeq (sDrop (eApp F_need_number (aCons (eVar 0) (aCons (eVar 1) aNil)))) (sSeq (sAsg (eOp2 dAddT (eSlice (eOp2 dIx (eVar 0) (eC (.int 1))) pNone (pSome (eVar 1))) (eSlice (eOp2 dIx (eVar 0) (eC (.int 1))) (pSome (eOp2 dAdd (eVar 1) (eC (.int 1)))) pNone)) (gSet 2)) (sSeq (sIf (cNot (cV (eApp F_hangs_together (aCons (eOp2 dIx (eVar 0) (eC (.int 0))) (aCons (eVar 2) aNil))))) sNever sNil) (sRet (eApp mkTup (aCons (eOp2 dIx (eVar 0) (eC (.int 0))) (aCons (eVar 2) aNil)))))))
def F_without_room : List D → Option D := runF 2 3 B_without_room
theorem w_without_room (T : Txt K mg) (ff : Addr) {f_hangs_together : Addr} {fd_hangs_together : FuncData} (O_hangs_together : FnOk P w K mg base CX0 2 f_hangs_together fd_hangs_together ["beams", "rooms"] (spP K F_hangs_together 2)) (g_hangs_together : mg "hangs_together" = some (.ref f_hangs_together)) (k_hangs_together : PySem.W.keepIn K (.ref f_hangs_together) = true) (b_hangs_together : Binds K fd_hangs_together ["beams", "rooms"] []) {f_need_number : Addr} {fd_need_number : FuncData} (O_need_number : FnOk P w K mg base CX0 7 f_need_number fd_need_number ["plan", "number"] (spP K F_need_number 2)) (g_need_number : mg "need_number" = some (.ref f_need_number)) (k_need_number : PySem.W.keepIn K (.ref f_need_number) = true) (b_need_number : Binds K fd_need_number ["plan", "number"] []) : ∃ W : List Nat, ∀ (cdv : Value) (A : Around) (outer : List Env) (s : Shared) (H : Hp) (E : XK), Room 7 (A.deeper (envOfC "without_room" (defScope s_without_room) s.heap.objs.size ff cdv)) → QSs (cxOf CX0 P w K mg base ["plan", "number", "rooms"] "without_room" (defScope s_without_room) ff cdv A outer s H E).nox W (defBody s_without_room) B_without_room :=
  ⟨_, fun cdv A outer s H E hr => (qs_cons (qs_expr (qe_call O_need_number (hr.mono (by decide)) g_need_number k_need_number b_need_number (qa_cons (qe_var 0) (qa_cons (qe_var 1) qa_nil)))) (qs_cons (qs_set 2 sc_without_room.nd (qe_addT (qe_slice (qe_ix (qe_var 0) qe_int) qpo_none (qpo_some (qe_var 1))) (qe_slice (qe_ix (qe_var 0) qe_int) (qpo_some (qe_add (qe_var 1) qe_int)) qpo_none))) (qs_cons (qs_if (qt_not (qt_val (qe_call O_hangs_together (hr.mono (by decide)) g_hangs_together k_hangs_together b_hangs_together (qa_cons (qe_ix (qe_var 0) qe_int) (qa_cons (qe_var 2) qa_nil))))) (qs_one qs_never) qs_nil) (qs_one (qs_ret (qe_tup (qa_cons (qe_ix (qe_var 0) qe_int) (qa_cons (qe_var 2) qa_nil))))))))⟩
theorem ok_without_room (T : Txt K mg) (X_without_room : Def K mg "without_room" "without_room" s_without_room ["plan", "number"]) (H_hangs_together : Has P w K mg base "hangs_together" 2 ["beams", "rooms"] (spP K F_hangs_together 2)) (H_need_number : Has P w K mg base "need_number" 7 ["plan", "number"] (spP K F_need_number 2)) : Has P w K mg base "without_room" 8 ["plan", "number"] (spP K F_without_room 2) := by
  obtain ⟨f_hangs_together, fd_hangs_together, O_hangs_together, g_hangs_together, k_hangs_together, b_hangs_together⟩ := H_hangs_together
  obtain ⟨f_need_number, fd_need_number, O_need_number, g_need_number, k_need_number, b_need_number⟩ := H_need_number
  obtain ⟨ff, fd, FF, gg, bb⟩ := X_without_room
  obtain ⟨W, hw⟩ := w_without_room T ff O_hangs_together g_hangs_together k_hangs_together b_hangs_together O_need_number g_need_number k_need_number b_need_number
  have o : FnOk P w K mg base CX0 8 ff fd ["plan", "number"] (spP K (runF 2 3 B_without_room) 2) := fnP (k := 7) FF sc_without_room hw
  exact ⟨ff, fd, o, gg, FF.kp, bb⟩
def BX_without_room : MXS := (xCons (xDrop (xApp G_need_number (aCons (eVar 0) (aCons (eVar 1) aNil)))) (xCons (xLift (sAsg (eOp2 dAddT (eSlice (eOp2 dIx (eVar 0) (eC (.int 1))) pNone (pSome (eVar 1))) (eSlice (eOp2 dIx (eVar 0) (eC (.int 1))) (pSome (eOp2 dAdd (eVar 1) (eC (.int 1)))) pNone)) (gSet 2))) (xCons (xIfS (cNot (cV (eApp F_hangs_together (aCons (eOp2 dIx (eVar 0) (eC (.int 0))) (aCons (eVar 2) aNil))))) (xRaise "Parted") (xLift sNil)) (xLift (sRet (eApp mkTup (aCons (eOp2 dIx (eVar 0) (eC (.int 0))) (aCons (eVar 2) aNil))))))))
def G_without_room : List D → Option (Ex D) := runX 2 3 BX_without_room
theorem wX_without_room (T : Txt K mg) (ff : Addr) {f_hangs_together : Addr} {fd_hangs_together : FuncData} (O_hangs_together : FnOk P w K mg base CX0 2 f_hangs_together fd_hangs_together ["beams", "rooms"] (spP K F_hangs_together 2)) (g_hangs_together : mg "hangs_together" = some (.ref f_hangs_together)) (k_hangs_together : PySem.W.keepIn K (.ref f_hangs_together) = true) (b_hangs_together : Binds K fd_hangs_together ["beams", "rooms"] []) {fX_need_number : Addr} {fdX_need_number : FuncData} (OX_need_number : FnOk P w K mg base (L2.CX P w) 7 fX_need_number fdX_need_number ["plan", "number"] (spX K (cmOf mg) G_need_number 2)) (gX_need_number : mg "need_number" = some (.ref fX_need_number)) (kX_need_number : PySem.W.keepIn K (.ref fX_need_number) = true) (bX_need_number : Binds K fdX_need_number ["plan", "number"] []) : ∃ W : List Nat, ∀ (cdv : Value) (A : Around) (outer : List Env) (s : Shared) (H : Hp) (E : XK), Room 7 (A.deeper (envOfC "without_room" (defScope s_without_room) s.heap.objs.size ff cdv)) → PSs (cxOf (L2.CX P w) P w K mg base ["plan", "number", "rooms"] "without_room" (defScope s_without_room) ff cdv A outer s H E) (defBody s_without_room) (tZS K (cmOf mg) (fun cls d _ H => E cls d H) W BX_without_room) :=
  ⟨_, fun cdv A outer s H E hr => (xss_cons (xs_expr (xe_call takes_cx OX_need_number (hr.mono (by decide)) gX_need_number kX_need_number bX_need_number (qa_cons (qe_var 0) (qa_cons (qe_var 1) qa_nil)))) (xss_cons (xs_lift (qs_set 2 sc_without_room.nd (qe_addT (qe_slice (qe_ix (qe_var 0) qe_int) qpo_none (qpo_some (qe_var 1))) (qe_slice (qe_ix (qe_var 0) qe_int) (qpo_some (qe_add (qe_var 1) qe_int)) qpo_none)))) (xss_cons (xs_if (qt_not (qt_val (qe_call O_hangs_together (hr.mono (by decide)) g_hangs_together k_hangs_together b_hangs_together (qa_cons (qe_ix (qe_var 0) qe_int) (qa_cons (qe_var 2) qa_nil))))) (xss_one (xs_raise PySem.F.excBase_ValueError T.c_Parted takes_cx)) (xss_lift qs_nil)) (xss_one (xs_lift (qs_ret (qe_tup (qa_cons (qe_ix (qe_var 0) qe_int) (qa_cons (qe_var 2) qa_nil)))))))))⟩
theorem okX_without_room (T : Txt K mg) (X_without_room : Def K mg "without_room" "without_room" s_without_room ["plan", "number"]) (H_hangs_together : Has P w K mg base "hangs_together" 2 ["beams", "rooms"] (spP K F_hangs_together 2)) (HX_need_number : HasE P w K mg base "need_number" 7 ["plan", "number"] (spX K (cmOf mg) G_need_number 2)) : HasE P w K mg base "without_room" 8 ["plan", "number"] (spX K (cmOf mg) G_without_room 2) := by
  obtain ⟨f_hangs_together, fd_hangs_together, O_hangs_together, g_hangs_together, k_hangs_together, b_hangs_together⟩ := H_hangs_together
  obtain ⟨fX_need_number, fdX_need_number, OX_need_number, gX_need_number, kX_need_number, bX_need_number⟩ := HX_need_number
  obtain ⟨ff, fd, FF, gg, bb⟩ := X_without_room
  obtain ⟨W, hw⟩ := wX_without_room T ff O_hangs_together g_hangs_together k_hangs_together b_hangs_together OX_need_number gX_need_number kX_need_number bX_need_number
  have o : FnOk P w K mg base (L2.CX P w) 8 ff fd ["plan", "number"] (spX K (cmOf mg) (runX 2 3 BX_without_room) 2) := fnX (k := 7) FF sc_without_room hw
  exact ⟨ff, fd, o, gg, FF.kp, bb⟩
abbrev s_wider : Stmt := topS 48
theorem sc_wider : FnScope ["plan", "number", "proportion", "one", "other", "own"] ["plan", "number", "proportion"] (defScope s_wider) := ⟨rfl, rfl, rfl, by decide +kernel, rfl, by decide +kernel, by decide +kernel⟩
def B_wider : MS := (sSeq (sDrop (eApp F_need_number (aCons (eVar 0) (aCons (eVar 1) aNil)))) (sSeq (sIf (cNot (cV (eApp F_is_proportion (aCons (eVar 2) aNil)))) sNever sNil) (sSeq (sAsg (eOp2 dIx (eOp2 dIx (eVar 0) (eC (.int 1))) (eVar 1)) (gTup [(gSet 3), (gSet 4), (gSet 5)])) (sRet (eApp mkTup (aCons (eOp2 dIx (eVar 0) (eC (.int 0))) (aCons (eOp2 dAddT (eOp2 dAddT (eSlice (eOp2 dIx (eVar 0) (eC (.int 1))) pNone (pSome (eVar 1))) (eApp mkTup (aCons (eApp mkTup (aCons (eVar 3) (aCons (eVar 4) (aCons (eVar 2) aNil)))) aNil))) (eSlice (eOp2 dIx (eVar 0) (eC (.int 1))) (pSome (eOp2 dAdd (eVar 1) (eC (.int 1)))) pNone)) aNil)))))))
def F_wider : List D → Option D := runF 3 6 B_wider
theorem w_wider (T : Txt K mg) (ff : Addr) {f_is_proportion : Addr} {fd_is_proportion : FuncData} (O_is_proportion : FnOk P w K mg base CX0 3 f_is_proportion fd_is_proportion ["thing"] (spP K F_is_proportion 1)) (g_is_proportion : mg "is_proportion" = some (.ref f_is_proportion)) (k_is_proportion : PySem.W.keepIn K (.ref f_is_proportion) = true) (b_is_proportion : Binds K fd_is_proportion ["thing"] []) {f_need_number : Addr} {fd_need_number : FuncData} (O_need_number : FnOk P w K mg base CX0 7 f_need_number fd_need_number ["plan", "number"] (spP K F_need_number 2)) (g_need_number : mg "need_number" = some (.ref f_need_number)) (k_need_number : PySem.W.keepIn K (.ref f_need_number) = true) (b_need_number : Binds K fd_need_number ["plan", "number"] []) : ∃ W : List Nat, ∀ (cdv : Value) (A : Around) (outer : List Env) (s : Shared) (H : Hp) (E : XK), Room 7 (A.deeper (envOfC "wider" (defScope s_wider) s.heap.objs.size ff cdv)) → QSs (cxOf CX0 P w K mg base ["plan", "number", "proportion", "one", "other", "own"] "wider" (defScope s_wider) ff cdv A outer s H E).nox W (defBody s_wider) B_wider :=
  ⟨_, fun cdv A outer s H E hr => (qs_cons (qs_expr (qe_call O_need_number (hr.mono (by decide)) g_need_number k_need_number b_need_number (qa_cons (qe_var 0) (qa_cons (qe_var 1) qa_nil)))) (qs_cons (qs_if (qt_not (qt_val (qe_call O_is_proportion (hr.mono (by decide)) g_is_proportion k_is_proportion b_is_proportion (qa_cons (qe_var 2) qa_nil)))) (qs_one qs_never) qs_nil) (qs_cons (qs_asg (qe_ix (qe_ix (qe_var 0) qe_int) (qe_var 1)) (qg_tup (qgs_cons (qg_name 3 sc_wider.nd) (qgs_cons (qg_name 4 sc_wider.nd) (qgs_cons (qg_name 5 sc_wider.nd) qgs_nil))))) (qs_one (qs_ret (qe_tup (qa_cons (qe_ix (qe_var 0) qe_int) (qa_cons (qe_addT (qe_addT (qe_slice (qe_ix (qe_var 0) qe_int) qpo_none (qpo_some (qe_var 1))) (qe_tup (qa_cons (qe_tup (qa_cons (qe_var 3) (qa_cons (qe_var 4) (qa_cons (qe_var 2) qa_nil)))) qa_nil))) (qe_slice (qe_ix (qe_var 0) qe_int) (qpo_some (qe_add (qe_var 1) qe_int)) qpo_none)) qa_nil))))))))⟩
theorem ok_wider (T : Txt K mg) (X_wider : Def K mg "wider" "wider" s_wider ["plan", "number", "proportion"]) (H_is_proportion : Has P w K mg base "is_proportion" 3 ["thing"] (spP K F_is_proportion 1)) (H_need_number : Has P w K mg base "need_number" 7 ["plan", "number"] (spP K F_need_number 2)) : Has P w K mg base "wider" 8 ["plan", "number", "proportion"] (spP K F_wider 3) := by
  obtain ⟨f_is_proportion, fd_is_proportion, O_is_proportion, g_is_proportion, k_is_proportion, b_is_proportion⟩ := H_is_proportion
  obtain ⟨f_need_number, fd_need_number, O_need_number, g_need_number, k_need_number, b_need_number⟩ := H_need_number
  obtain ⟨ff, fd, FF, gg, bb⟩ := X_wider
  obtain ⟨W, hw⟩ := w_wider T ff O_is_proportion g_is_proportion k_is_proportion b_is_proportion O_need_number g_need_number k_need_number b_need_number
  have o : FnOk P w K mg base CX0 8 ff fd ["plan", "number", "proportion"] (spP K (runF 3 6 B_wider) 3) := fnP (k := 7) FF sc_wider hw
  exact ⟨ff, fd, o, gg, FF.kp, bb⟩
def BX_wider : MXS := (xCons (xDrop (xApp G_need_number (aCons (eVar 0) (aCons (eVar 1) aNil)))) (xCons (xIfS (cNot (cV (eApp F_is_proportion (aCons (eVar 2) aNil)))) (xRaise "NoProportion") (xLift sNil)) (xLift (sSeq (sAsg (eOp2 dIx (eOp2 dIx (eVar 0) (eC (.int 1))) (eVar 1)) (gTup [(gSet 3), (gSet 4), (gSet 5)])) (sRet (eApp mkTup (aCons (eOp2 dIx (eVar 0) (eC (.int 0))) (aCons (eOp2 dAddT (eOp2 dAddT (eSlice (eOp2 dIx (eVar 0) (eC (.int 1))) pNone (pSome (eVar 1))) (eApp mkTup (aCons (eApp mkTup (aCons (eVar 3) (aCons (eVar 4) (aCons (eVar 2) aNil)))) aNil))) (eSlice (eOp2 dIx (eVar 0) (eC (.int 1))) (pSome (eOp2 dAdd (eVar 1) (eC (.int 1)))) pNone)) aNil))))))))
def G_wider : List D → Option (Ex D) := runX 3 6 BX_wider
theorem wX_wider (T : Txt K mg) (ff : Addr) {f_is_proportion : Addr} {fd_is_proportion : FuncData} (O_is_proportion : FnOk P w K mg base CX0 3 f_is_proportion fd_is_proportion ["thing"] (spP K F_is_proportion 1)) (g_is_proportion : mg "is_proportion" = some (.ref f_is_proportion)) (k_is_proportion : PySem.W.keepIn K (.ref f_is_proportion) = true) (b_is_proportion : Binds K fd_is_proportion ["thing"] []) {fX_need_number : Addr} {fdX_need_number : FuncData} (OX_need_number : FnOk P w K mg base (L2.CX P w) 7 fX_need_number fdX_need_number ["plan", "number"] (spX K (cmOf mg) G_need_number 2)) (gX_need_number : mg "need_number" = some (.ref fX_need_number)) (kX_need_number : PySem.W.keepIn K (.ref fX_need_number) = true) (bX_need_number : Binds K fdX_need_number ["plan", "number"] []) : ∃ W : List Nat, ∀ (cdv : Value) (A : Around) (outer : List Env) (s : Shared) (H : Hp) (E : XK), Room 7 (A.deeper (envOfC "wider" (defScope s_wider) s.heap.objs.size ff cdv)) → PSs (cxOf (L2.CX P w) P w K mg base ["plan", "number", "proportion", "one", "other", "own"] "wider" (defScope s_wider) ff cdv A outer s H E) (defBody s_wider) (tZS K (cmOf mg) (fun cls d _ H => E cls d H) W BX_wider) :=
  ⟨_, fun cdv A outer s H E hr => (xss_cons (xs_expr (xe_call takes_cx OX_need_number (hr.mono (by decide)) gX_need_number kX_need_number bX_need_number (qa_cons (qe_var 0) (qa_cons (qe_var 1) qa_nil)))) (xss_cons (xs_if (qt_not (qt_val (qe_call O_is_proportion (hr.mono (by decide)) g_is_proportion k_is_proportion b_is_proportion (qa_cons (qe_var 2) qa_nil)))) (xss_one (xs_raise PySem.F.excBase_ValueError T.c_NoProportion takes_cx)) (xss_lift qs_nil)) (xss_lift (qss_nox (qs_cons (qs_asg (qe_ix (qe_ix (qe_var 0) qe_int) (qe_var 1)) (qg_tup (qgs_cons (qg_name 3 sc_wider.nd) (qgs_cons (qg_name 4 sc_wider.nd) (qgs_cons (qg_name 5 sc_wider.nd) qgs_nil))))) (qs_one (qs_ret (qe_tup (qa_cons (qe_ix (qe_var 0) qe_int) (qa_cons (qe_addT (qe_addT (qe_slice (qe_ix (qe_var 0) qe_int) qpo_none (qpo_some (qe_var 1))) (qe_tup (qa_cons (qe_tup (qa_cons (qe_var 3) (qa_cons (qe_var 4) (qa_cons (qe_var 2) qa_nil)))) qa_nil))) (qe_slice (qe_ix (qe_var 0) qe_int) (qpo_some (qe_add (qe_var 1) qe_int)) qpo_none)) qa_nil))))))))))⟩
theorem okX_wider (T : Txt K mg) (X_wider : Def K mg "wider" "wider" s_wider ["plan", "number", "proportion"]) (H_is_proportion : Has P w K mg base "is_proportion" 3 ["thing"] (spP K F_is_proportion 1)) (HX_need_number : HasE P w K mg base "need_number" 7 ["plan", "number"] (spX K (cmOf mg) G_need_number 2)) : HasE P w K mg base "wider" 8 ["plan", "number", "proportion"] (spX K (cmOf mg) G_wider 3) := by
  obtain ⟨f_is_proportion, fd_is_proportion, O_is_proportion, g_is_proportion, k_is_proportion, b_is_proportion⟩ := H_is_proportion
  obtain ⟨fX_need_number, fdX_need_number, OX_need_number, gX_need_number, kX_need_number, bX_need_number⟩ := HX_need_number
  obtain ⟨ff, fd, FF, gg, bb⟩ := X_wider
  obtain ⟨W, hw⟩ := wX_wider T ff O_is_proportion g_is_proportion k_is_proportion b_is_proportion OX_need_number gX_need_number kX_need_number bX_need_number
  have o : FnOk P w K mg base (L2.CX P w) 8 ff fd ["plan", "number", "proportion"] (spX K (cmOf mg) (runX 3 6 BX_wider) 3) := fnX (k := 7) FF sc_wider hw
  exact ⟨ff, fd, o, gg, FF.kp, bb⟩
abbrev s_Hall_init : Stmt := mthS 50 0
theorem sc_Hall_init : FnScope ["self", "plan"] ["self", "plan"] (defScope s_Hall_init) := ⟨rfl, rfl, rfl, by decide +kernel, rfl, by decide +kernel, by decide +kernel⟩
theorem w_Hall_init (T : Txt K mg) (ff : Addr) {f_need_plan : Addr} {fd_need_plan : FuncData} (O_need_plan : FnOk P w K mg base CX0 6 f_need_plan fd_need_plan ["plan"] (spP K F_need_plan 1)) (g_need_plan : mg "need_plan" = some (.ref f_need_plan)) (k_need_plan : PySem.W.keepIn K (.ref f_need_plan) = true) (b_need_plan : Binds K fd_need_plan ["plan"] []) : ∀ (cdv : Value) (A : Around) (outer : List Env) (s : Shared) (H : Hp) (E : XK), Room 6 (A.deeper (envOfC "Hall.__init__" (defScope s_Hall_init) s.heap.objs.size ff cdv)) → PSs (cxOf CX0 P w K mg base ["self", "plan"] "Hall.__init__" (defScope s_Hall_init) ff cdv A outer s H E).nox (defBody s_Hall_init) (tInit K (hA K) F_need_plan) :=
  fun cdv A outer s H E hr => pss_init T.hal.cls O_need_plan (hr.mono (by decide)) g_need_plan k_need_plan b_need_plan rfl rfl (by first | exact Or.inl rfl | exact Or.inr (Or.inl rfl) | exact Or.inr (Or.inr rfl)) (by first | exact Or.inl rfl | exact Or.inr (Or.inl rfl) | exact Or.inr (Or.inr rfl)) rfl rfl rfl rfl rfl rfl rfl
theorem ok_Hall_init (T : Txt K mg) (X_Hall_init : DefNew K mg "__init__" "Hall.__init__" s_Hall_init ["self", "plan"]) (H_need_plan : Has P w K mg base "need_plan" 6 ["plan"] (spP K F_need_plan 1)) : HasNew P w K mg base "__init__" 7 ["self", "plan"] (spNew K (hA K) F_need_plan) := by
  obtain ⟨f_need_plan, fd_need_plan, O_need_plan, g_need_plan, k_need_plan, b_need_plan⟩ := H_need_plan
  obtain ⟨ff, fd, MM, FF, bb⟩ := X_Hall_init
  exact ⟨ff, fd, MM, fnNew (k := 6) FF sc_Hall_init (w_Hall_init T ff O_need_plan g_need_plan k_need_plan b_need_plan), bb⟩
abbrev s_Hall_call : Stmt := mthS 50 1
theorem sc_Hall_call : FnScope ["self", "name", "how"] ["self", "name", "how"] (defScope s_Hall_call) := ⟨rfl, rfl, rfl, by decide +kernel, rfl, by decide +kernel, by decide +kernel⟩
def B_Hall_call : MS := (sSeq (sDrop (ePastApp 0 (rHow 0))) (sSeq (sDrop (eCallsApp 0 (rVar 1))) (sSeq (sHow 0 (eVar 2)) (sRet (eApp F_hall_of (aCons (eVar 2) aNil))))))
def F_Hall_call : List Sl → Option (D × List Sl) := runO [0] 3 3 B_Hall_call
theorem w_Hall_call (T : Txt K mg) (ff : Addr) {f_hall_of : Addr} {fd_hall_of : FuncData} (O_hall_of : FnOk P w K mg base CX0 8 f_hall_of fd_hall_of ["plan"] (spP K F_hall_of 1)) (g_hall_of : mg "hall_of" = some (.ref f_hall_of)) (k_hall_of : PySem.W.keepIn K (.ref f_hall_of) = true) (b_hall_of : Binds K fd_hall_of ["plan"] []) : ∃ W : List Nat, (∀ i ∈ ([0] : List Nat), i ∉ W) ∧ ∀ (cdv : Value) (A : Around) (outer : List Env) (s : Shared) (H : Hp) (E : XK), Room 8 (A.deeper (envOfC "Hall.call" (defScope s_Hall_call) s.heap.objs.size ff cdv)) → QSs (cxOf CX0 P w K mg base ["self", "name", "how"] "Hall.call" (defScope s_Hall_call) ff cdv A outer s H E).nox W (defBody s_Hall_call) B_Hall_call :=
  ⟨_, by decide, fun cdv A outer s H E hr => (qs_cons (qs_expr (qe_pastApp 0 T.hal.cls (qr_how 0 T.hal.cls))) (qs_cons (qs_expr (qe_callsApp 0 T.hal.cls (qr_var 1))) (qs_cons (qs_how 0 T.hal.cls (qe_var 2)) (qs_one (qs_ret (qe_call O_hall_of (hr.mono (by decide)) g_hall_of k_hall_of b_hall_of (qa_cons (qe_var 2) qa_nil)))))))⟩
theorem ok_Hall_call (T : Txt K mg) (X_Hall_call : DefMt K mg "call" "Hall.call" s_Hall_call ["self", "name", "how"]) (H_hall_of : Has P w K mg base "hall_of" 8 ["plan"] (spP K F_hall_of 1)) : HasMt P w K mg base "call" 9 ["self", "name", "how"] (spO K F_Hall_call 3) := by
  obtain ⟨f_hall_of, fd_hall_of, O_hall_of, g_hall_of, k_hall_of, b_hall_of⟩ := H_hall_of
  obtain ⟨ff, fd, MM, FF, bb⟩ := X_Hall_call
  obtain ⟨W, hW, hw⟩ := w_Hall_call T ff O_hall_of g_hall_of k_hall_of b_hall_of
  have o : FnOk P w K mg base CX0 9 ff fd ["self", "name", "how"] (spO K (runO [0] 3 3 B_Hall_call) 3) := fnO (k := 8) FF sc_Hall_call hw [0] hW
  exact ⟨ff, fd, MM, o, bb⟩
abbrev s_Hall_put : Stmt := mthS 50 2
theorem sc_Hall_put : FnScope ["self", "room"] ["self", "room"] (defScope s_Hall_put) := ⟨rfl, rfl, rfl, by decide +kernel, rfl, by decide +kernel, by decide +kernel⟩
def B_Hall_put : MS := (sRet (eMeth F_Hall_call 0 (yDat (eC (.str "put")) (yDat (eApp F_with_room (aCons (eHow 0) (aCons (eVar 1) aNil))) yNil))))
def F_Hall_put : List Sl → Option (D × List Sl) := runO [0] 2 2 B_Hall_put
theorem w_Hall_put (T : Txt K mg) (ff : Addr) {f_with_room : Addr} {fd_with_room : FuncData} (O_with_room : FnOk P w K mg base CX0 7 f_with_room fd_with_room ["plan", "room"] (spP K F_with_room 2)) (g_with_room : mg "with_room" = some (.ref f_with_room)) (k_with_room : PySem.W.keepIn K (.ref f_with_room) = true) (b_with_room : Binds K fd_with_room ["plan", "room"] []) {f_Hall_call : Addr} {fd_Hall_call : FuncData} (M_Hall_call : Meth K (hA K) "call" f_Hall_call) (O_Hall_call : FnOk P w K mg base CX0 9 f_Hall_call fd_Hall_call ["self", "name", "how"] (spO K F_Hall_call 3)) (b_Hall_call : Binds K fd_Hall_call ["self", "name", "how"] []) : ∃ W : List Nat, (∀ i ∈ ([0] : List Nat), i ∉ W) ∧ ∀ (cdv : Value) (A : Around) (outer : List Env) (s : Shared) (H : Hp) (E : XK), Room 11 (A.deeper (envOfC "Hall.put" (defScope s_Hall_put) s.heap.objs.size ff cdv)) → QSs (cxOf CX0 P w K mg base ["self", "room"] "Hall.put" (defScope s_Hall_put) ff cdv A outer s H E).nox W (defBody s_Hall_put) B_Hall_put :=
  ⟨_, by decide, fun cdv A outer s H E hr => (qs_one (qs_ret (qe_meth 0 T.hal.cls M_Hall_call O_Hall_call (hr.mono (by decide)) b_Hall_call (qy_dat qe_str (qy_dat (qe_call O_with_room (hr.mono (by decide)) g_with_room k_with_room b_with_room (qa_cons (qe_how 0 T.hal.cls) (qa_cons (qe_var 1) qa_nil))) qy_nil)))))⟩
theorem ok_Hall_put (T : Txt K mg) (X_Hall_put : DefMt K mg "put" "Hall.put" s_Hall_put ["self", "room"]) (H_with_room : Has P w K mg base "with_room" 7 ["plan", "room"] (spP K F_with_room 2)) (H_Hall_call : HasMt P w K mg base "call" 9 ["self", "name", "how"] (spO K F_Hall_call 3)) : HasMt P w K mg base "put" 12 ["self", "room"] (spO K F_Hall_put 2) := by
  obtain ⟨f_with_room, fd_with_room, O_with_room, g_with_room, k_with_room, b_with_room⟩ := H_with_room
  obtain ⟨f_Hall_call, fd_Hall_call, M_Hall_call, O_Hall_call, b_Hall_call⟩ := H_Hall_call
  obtain ⟨ff, fd, MM, FF, bb⟩ := X_Hall_put
  obtain ⟨W, hW, hw⟩ := w_Hall_put T ff O_with_room g_with_room k_with_room b_with_room M_Hall_call O_Hall_call b_Hall_call
  have o : FnOk P w K mg base CX0 12 ff fd ["self", "room"] (spO K (runO [0] 2 2 B_Hall_put) 2) := fnO (k := 11) FF sc_Hall_put hw [0] hW
  exact ⟨ff, fd, MM, o, bb⟩
def BX_Hall_put : MXS := (xRet (xMeth2 F_Hall_call 0 (eC (.str "put")) (xApp G_with_room (aCons (eHow 0) (aCons (eVar 1) aNil)))))
def G_Hall_put : List Sl → Option (Ex D × List Sl) := runOX [0] 2 2 BX_Hall_put
theorem wX_Hall_put (T : Txt K mg) (ff : Addr) {fX_with_room : Addr} {fdX_with_room : FuncData} (OX_with_room : FnOk P w K mg base (L2.CX P w) 7 fX_with_room fdX_with_room ["plan", "room"] (spX K (cmOf mg) G_with_room 2)) (gX_with_room : mg "with_room" = some (.ref fX_with_room)) (kX_with_room : PySem.W.keepIn K (.ref fX_with_room) = true) (bX_with_room : Binds K fdX_with_room ["plan", "room"] []) {f_Hall_call : Addr} {fd_Hall_call : FuncData} (M_Hall_call : Meth K (hA K) "call" f_Hall_call) (O_Hall_call : FnOk P w K mg base CX0 9 f_Hall_call fd_Hall_call ["self", "name", "how"] (spO K F_Hall_call 3)) (b_Hall_call : Binds K fd_Hall_call ["self", "name", "how"] []) : ∃ W : List Nat, (∀ i ∈ ([0] : List Nat), i ∉ W) ∧ ∀ (cdv : Value) (A : Around) (outer : List Env) (s : Shared) (H : Hp) (E : XK), Room 11 (A.deeper (envOfC "Hall.put" (defScope s_Hall_put) s.heap.objs.size ff cdv)) → PSs (cxOf (L2.CX P w) P w K mg base ["self", "room"] "Hall.put" (defScope s_Hall_put) ff cdv A outer s H E) (defBody s_Hall_put) (tZS K (cmOf mg) (fun cls d _ H => E cls d H) W BX_Hall_put) :=
  ⟨_, by decide, fun cdv A outer s H E hr => (xss_one (xs_ret (xe_meth2 0 T.hal.cls M_Hall_call O_Hall_call (hr.mono (by decide)) b_Hall_call qe_str (xe_call takes_cx OX_with_room (hr.mono (by decide)) gX_with_room kX_with_room bX_with_room (qa_cons (qe_how 0 T.hal.cls) (qa_cons (qe_var 1) qa_nil))))))⟩
theorem okX_Hall_put (T : Txt K mg) (X_Hall_put : DefMt K mg "put" "Hall.put" s_Hall_put ["self", "room"]) (HX_with_room : HasE P w K mg base "with_room" 7 ["plan", "room"] (spX K (cmOf mg) G_with_room 2)) (H_Hall_call : HasMt P w K mg base "call" 9 ["self", "name", "how"] (spO K F_Hall_call 3)) : HasMtX P w K mg base "put" 12 ["self", "room"] (spOX K (cmOf mg) G_Hall_put 2) := by
  obtain ⟨fX_with_room, fdX_with_room, OX_with_room, gX_with_room, kX_with_room, bX_with_room⟩ := HX_with_room
  obtain ⟨f_Hall_call, fd_Hall_call, M_Hall_call, O_Hall_call, b_Hall_call⟩ := H_Hall_call
  obtain ⟨ff, fd, MM, FF, bb⟩ := X_Hall_put
  obtain ⟨W, hW, hw⟩ := wX_Hall_put T ff OX_with_room gX_with_room kX_with_room bX_with_room M_Hall_call O_Hall_call b_Hall_call
  have o : FnOk P w K mg base (L2.CX P w) 12 ff fd ["self", "room"] (spOX K (cmOf mg) (runOX [0] 2 2 BX_Hall_put) 2) := fnOX (k := 11) FF sc_Hall_put hw [0] hW
  exact ⟨ff, fd, MM, o, bb⟩
abbrev s_Hall_take : Stmt := mthS 50 3
theorem sc_Hall_take : FnScope ["self", "number"] ["self", "number"] (defScope s_Hall_take) := ⟨rfl, rfl, rfl, by decide +kernel, rfl, by decide +kernel, by decide +kernel⟩
def B_Hall_take : MS := (sRet (eMeth F_Hall_call 0 (yDat (eC (.str "take")) (yDat (eApp F_without_room (aCons (eHow 0) (aCons (eVar 1) aNil))) yNil))))
def F_Hall_take : List Sl → Option (D × List Sl) := runO [0] 2 2 B_Hall_take
theorem w_Hall_take (T : Txt K mg) (ff : Addr) {f_without_room : Addr} {fd_without_room : FuncData} (O_without_room : FnOk P w K mg base CX0 8 f_without_room fd_without_room ["plan", "number"] (spP K F_without_room 2)) (g_without_room : mg "without_room" = some (.ref f_without_room)) (k_without_room : PySem.W.keepIn K (.ref f_without_room) = true) (b_without_room : Binds K fd_without_room ["plan", "number"] []) {f_Hall_call : Addr} {fd_Hall_call : FuncData} (M_Hall_call : Meth K (hA K) "call" f_Hall_call) (O_Hall_call : FnOk P w K mg base CX0 9 f_Hall_call fd_Hall_call ["self", "name", "how"] (spO K F_Hall_call 3)) (b_Hall_call : Binds K fd_Hall_call ["self", "name", "how"] []) : ∃ W : List Nat, (∀ i ∈ ([0] : List Nat), i ∉ W) ∧ ∀ (cdv : Value) (A : Around) (outer : List Env) (s : Shared) (H : Hp) (E : XK), Room 11 (A.deeper (envOfC "Hall.take" (defScope s_Hall_take) s.heap.objs.size ff cdv)) → QSs (cxOf CX0 P w K mg base ["self", "number"] "Hall.take" (defScope s_Hall_take) ff cdv A outer s H E).nox W (defBody s_Hall_take) B_Hall_take :=
  ⟨_, by decide, fun cdv A outer s H E hr => (qs_one (qs_ret (qe_meth 0 T.hal.cls M_Hall_call O_Hall_call (hr.mono (by decide)) b_Hall_call (qy_dat qe_str (qy_dat (qe_call O_without_room (hr.mono (by decide)) g_without_room k_without_room b_without_room (qa_cons (qe_how 0 T.hal.cls) (qa_cons (qe_var 1) qa_nil))) qy_nil)))))⟩
theorem ok_Hall_take (T : Txt K mg) (X_Hall_take : DefMt K mg "take" "Hall.take" s_Hall_take ["self", "number"]) (H_without_room : Has P w K mg base "without_room" 8 ["plan", "number"] (spP K F_without_room 2)) (H_Hall_call : HasMt P w K mg base "call" 9 ["self", "name", "how"] (spO K F_Hall_call 3)) : HasMt P w K mg base "take" 12 ["self", "number"] (spO K F_Hall_take 2) := by
  obtain ⟨f_without_room, fd_without_room, O_without_room, g_without_room, k_without_room, b_without_room⟩ := H_without_room
  obtain ⟨f_Hall_call, fd_Hall_call, M_Hall_call, O_Hall_call, b_Hall_call⟩ := H_Hall_call
  obtain ⟨ff, fd, MM, FF, bb⟩ := X_Hall_take
  obtain ⟨W, hW, hw⟩ := w_Hall_take T ff O_without_room g_without_room k_without_room b_without_room M_Hall_call O_Hall_call b_Hall_call
  have o : FnOk P w K mg base CX0 12 ff fd ["self", "number"] (spO K (runO [0] 2 2 B_Hall_take) 2) := fnO (k := 11) FF sc_Hall_take hw [0] hW
  exact ⟨ff, fd, MM, o, bb⟩
def BX_Hall_take : MXS := (xRet (xMeth2 F_Hall_call 0 (eC (.str "take")) (xApp G_without_room (aCons (eHow 0) (aCons (eVar 1) aNil)))))
def G_Hall_take : List Sl → Option (Ex D × List Sl) := runOX [0] 2 2 BX_Hall_take
theorem wX_Hall_take (T : Txt K mg) (ff : Addr) {fX_without_room : Addr} {fdX_without_room : FuncData} (OX_without_room : FnOk P w K mg base (L2.CX P w) 8 fX_without_room fdX_without_room ["plan", "number"] (spX K (cmOf mg) G_without_room 2)) (gX_without_room : mg "without_room" = some (.ref fX_without_room)) (kX_without_room : PySem.W.keepIn K (.ref fX_without_room) = true) (bX_without_room : Binds K fdX_without_room ["plan", "number"] []) {f_Hall_call : Addr} {fd_Hall_call : FuncData} (M_Hall_call : Meth K (hA K) "call" f_Hall_call) (O_Hall_call : FnOk P w K mg base CX0 9 f_Hall_call fd_Hall_call ["self", "name", "how"] (spO K F_Hall_call 3)) (b_Hall_call : Binds K fd_Hall_call ["self", "name", "how"] []) : ∃ W : List Nat, (∀ i ∈ ([0] : List Nat), i ∉ W) ∧ ∀ (cdv : Value) (A : Around) (outer : List Env) (s : Shared) (H : Hp) (E : XK), Room 11 (A.deeper (envOfC "Hall.take" (defScope s_Hall_take) s.heap.objs.size ff cdv)) → PSs (cxOf (L2.CX P w) P w K mg base ["self", "number"] "Hall.take" (defScope s_Hall_take) ff cdv A outer s H E) (defBody s_Hall_take) (tZS K (cmOf mg) (fun cls d _ H => E cls d H) W BX_Hall_take) :=
  ⟨_, by decide, fun cdv A outer s H E hr => (xss_one (xs_ret (xe_meth2 0 T.hal.cls M_Hall_call O_Hall_call (hr.mono (by decide)) b_Hall_call qe_str (xe_call takes_cx OX_without_room (hr.mono (by decide)) gX_without_room kX_without_room bX_without_room (qa_cons (qe_how 0 T.hal.cls) (qa_cons (qe_var 1) qa_nil))))))⟩
theorem okX_Hall_take (T : Txt K mg) (X_Hall_take : DefMt K mg "take" "Hall.take" s_Hall_take ["self", "number"]) (HX_without_room : HasE P w K mg base "without_room" 8 ["plan", "number"] (spX K (cmOf mg) G_without_room 2)) (H_Hall_call : HasMt P w K mg base "call" 9 ["self", "name", "how"] (spO K F_Hall_call 3)) : HasMtX P w K mg base "take" 12 ["self", "number"] (spOX K (cmOf mg) G_Hall_take 2) := by
  obtain ⟨fX_without_room, fdX_without_room, OX_without_room, gX_without_room, kX_without_room, bX_without_room⟩ := HX_without_room
  obtain ⟨f_Hall_call, fd_Hall_call, M_Hall_call, O_Hall_call, b_Hall_call⟩ := H_Hall_call
  obtain ⟨ff, fd, MM, FF, bb⟩ := X_Hall_take
  obtain ⟨W, hW, hw⟩ := wX_Hall_take T ff OX_without_room gX_without_room kX_without_room bX_without_room M_Hall_call O_Hall_call b_Hall_call
  have o : FnOk P w K mg base (L2.CX P w) 12 ff fd ["self", "number"] (spOX K (cmOf mg) (runOX [0] 2 2 BX_Hall_take) 2) := fnOX (k := 11) FF sc_Hall_take hw [0] hW
  exact ⟨ff, fd, MM, o, bb⟩
abbrev s_Hall_widen : Stmt := mthS 50 4
theorem sc_Hall_widen : FnScope ["self", "number", "proportion"] ["self", "number", "proportion"] (defScope s_Hall_widen) := ⟨rfl, rfl, rfl, by decide +kernel, rfl, by decide +kernel, by decide +kernel⟩
def B_Hall_widen : MS := (sRet (eMeth F_Hall_call 0 (yDat (eC (.str "widen")) (yDat (eApp F_wider (aCons (eHow 0) (aCons (eVar 1) (aCons (eVar 2) aNil)))) yNil))))
def F_Hall_widen : List Sl → Option (D × List Sl) := runO [0] 3 3 B_Hall_widen
theorem w_Hall_widen (T : Txt K mg) (ff : Addr) {f_wider : Addr} {fd_wider : FuncData} (O_wider : FnOk P w K mg base CX0 8 f_wider fd_wider ["plan", "number", "proportion"] (spP K F_wider 3)) (g_wider : mg "wider" = some (.ref f_wider)) (k_wider : PySem.W.keepIn K (.ref f_wider) = true) (b_wider : Binds K fd_wider ["plan", "number", "proportion"] []) {f_Hall_call : Addr} {fd_Hall_call : FuncData} (M_Hall_call : Meth K (hA K) "call" f_Hall_call) (O_Hall_call : FnOk P w K mg base CX0 9 f_Hall_call fd_Hall_call ["self", "name", "how"] (spO K F_Hall_call 3)) (b_Hall_call : Binds K fd_Hall_call ["self", "name", "how"] []) : ∃ W : List Nat, (∀ i ∈ ([0] : List Nat), i ∉ W) ∧ ∀ (cdv : Value) (A : Around) (outer : List Env) (s : Shared) (H : Hp) (E : XK), Room 11 (A.deeper (envOfC "Hall.widen" (defScope s_Hall_widen) s.heap.objs.size ff cdv)) → QSs (cxOf CX0 P w K mg base ["self", "number", "proportion"] "Hall.widen" (defScope s_Hall_widen) ff cdv A outer s H E).nox W (defBody s_Hall_widen) B_Hall_widen :=
  ⟨_, by decide, fun cdv A outer s H E hr => (qs_one (qs_ret (qe_meth 0 T.hal.cls M_Hall_call O_Hall_call (hr.mono (by decide)) b_Hall_call (qy_dat qe_str (qy_dat (qe_call O_wider (hr.mono (by decide)) g_wider k_wider b_wider (qa_cons (qe_how 0 T.hal.cls) (qa_cons (qe_var 1) (qa_cons (qe_var 2) qa_nil)))) qy_nil)))))⟩
theorem ok_Hall_widen (T : Txt K mg) (X_Hall_widen : DefMt K mg "widen" "Hall.widen" s_Hall_widen ["self", "number", "proportion"]) (H_wider : Has P w K mg base "wider" 8 ["plan", "number", "proportion"] (spP K F_wider 3)) (H_Hall_call : HasMt P w K mg base "call" 9 ["self", "name", "how"] (spO K F_Hall_call 3)) : HasMt P w K mg base "widen" 12 ["self", "number", "proportion"] (spO K F_Hall_widen 3) := by
  obtain ⟨f_wider, fd_wider, O_wider, g_wider, k_wider, b_wider⟩ := H_wider
  obtain ⟨f_Hall_call, fd_Hall_call, M_Hall_call, O_Hall_call, b_Hall_call⟩ := H_Hall_call
  obtain ⟨ff, fd, MM, FF, bb⟩ := X_Hall_widen
  obtain ⟨W, hW, hw⟩ := w_Hall_widen T ff O_wider g_wider k_wider b_wider M_Hall_call O_Hall_call b_Hall_call
  have o : FnOk P w K mg base CX0 12 ff fd ["self", "number", "proportion"] (spO K (runO [0] 3 3 B_Hall_widen) 3) := fnO (k := 11) FF sc_Hall_widen hw [0] hW
  exact ⟨ff, fd, MM, o, bb⟩
def BX_Hall_widen : MXS := (xRet (xMeth2 F_Hall_call 0 (eC (.str "widen")) (xApp G_wider (aCons (eHow 0) (aCons (eVar 1) (aCons (eVar 2) aNil))))))
def G_Hall_widen : List Sl → Option (Ex D × List Sl) := runOX [0] 3 3 BX_Hall_widen
theorem wX_Hall_widen (T : Txt K mg) (ff : Addr) {fX_wider : Addr} {fdX_wider : FuncData} (OX_wider : FnOk P w K mg base (L2.CX P w) 8 fX_wider fdX_wider ["plan", "number", "proportion"] (spX K (cmOf mg) G_wider 3)) (gX_wider : mg "wider" = some (.ref fX_wider)) (kX_wider : PySem.W.keepIn K (.ref fX_wider) = true) (bX_wider : Binds K fdX_wider ["plan", "number", "proportion"] []) {f_Hall_call : Addr} {fd_Hall_call : FuncData} (M_Hall_call : Meth K (hA K) "call" f_Hall_call) (O_Hall_call : FnOk P w K mg base CX0 9 f_Hall_call fd_Hall_call ["self", "name", "how"] (spO K F_Hall_call 3)) (b_Hall_call : Binds K fd_Hall_call ["self", "name", "how"] []) : ∃ W : List Nat, (∀ i ∈ ([0] : List Nat), i ∉ W) ∧ ∀ (cdv : Value) (A : Around) (outer : List Env) (s : Shared) (H : Hp) (E : XK), Room 11 (A.deeper (envOfC "Hall.widen" (defScope s_Hall_widen) s.heap.objs.size ff cdv)) → PSs (cxOf (L2.CX P w) P w K mg base ["self", "number", "proportion"] "Hall.widen" (defScope s_Hall_widen) ff cdv A outer s H E) (defBody s_Hall_widen) (tZS K (cmOf mg) (fun cls d _ H => E cls d H) W BX_Hall_widen) :=
  ⟨_, by decide, fun cdv A outer s H E hr => (xss_one (xs_ret (xe_meth2 0 T.hal.cls M_Hall_call O_Hall_call (hr.mono (by decide)) b_Hall_call qe_str (xe_call takes_cx OX_wider (hr.mono (by decide)) gX_wider kX_wider bX_wider (qa_cons (qe_how 0 T.hal.cls) (qa_cons (qe_var 1) (qa_cons (qe_var 2) qa_nil)))))))⟩
theorem okX_Hall_widen (T : Txt K mg) (X_Hall_widen : DefMt K mg "widen" "Hall.widen" s_Hall_widen ["self", "number", "proportion"]) (HX_wider : HasE P w K mg base "wider" 8 ["plan", "number", "proportion"] (spX K (cmOf mg) G_wider 3)) (H_Hall_call : HasMt P w K mg base "call" 9 ["self", "name", "how"] (spO K F_Hall_call 3)) : HasMtX P w K mg base "widen" 12 ["self", "number", "proportion"] (spOX K (cmOf mg) G_Hall_widen 3) := by
  obtain ⟨fX_wider, fdX_wider, OX_wider, gX_wider, kX_wider, bX_wider⟩ := HX_wider
  obtain ⟨f_Hall_call, fd_Hall_call, M_Hall_call, O_Hall_call, b_Hall_call⟩ := H_Hall_call
  obtain ⟨ff, fd, MM, FF, bb⟩ := X_Hall_widen
  obtain ⟨W, hW, hw⟩ := wX_Hall_widen T ff OX_wider gX_wider kX_wider bX_wider M_Hall_call O_Hall_call b_Hall_call
  have o : FnOk P w K mg base (L2.CX P w) 12 ff fd ["self", "number", "proportion"] (spOX K (cmOf mg) (runOX [0] 3 3 BX_Hall_widen) 3) := fnOX (k := 11) FF sc_Hall_widen hw [0] hW
  exact ⟨ff, fd, MM, o, bb⟩
abbrev s_Hall_plan : Stmt := mthS 50 5
theorem sc_Hall_plan : FnScope ["self"] ["self"] (defScope s_Hall_plan) := ⟨rfl, rfl, rfl, by decide +kernel, rfl, by decide +kernel, by decide +kernel⟩
def B_Hall_plan : MS := (sRet (eHow 0))
def F_Hall_plan : List Sl → Option (D × List Sl) := runO [0] 1 1 B_Hall_plan
theorem w_Hall_plan (T : Txt K mg) (ff : Addr) : ∃ W : List Nat, (∀ i ∈ ([0] : List Nat), i ∉ W) ∧ ∀ (cdv : Value) (A : Around) (outer : List Env) (s : Shared) (H : Hp) (E : XK), Room 0 (A.deeper (envOfC "Hall.plan" (defScope s_Hall_plan) s.heap.objs.size ff cdv)) → QSs (cxOf CX0 P w K mg base ["self"] "Hall.plan" (defScope s_Hall_plan) ff cdv A outer s H E).nox W (defBody s_Hall_plan) B_Hall_plan :=
  ⟨_, by decide, fun cdv A outer s H E hr => (qs_one (qs_ret (qe_how 0 T.hal.cls)))⟩
theorem ok_Hall_plan (T : Txt K mg) (X_Hall_plan : DefMt K mg "plan" "Hall.plan" s_Hall_plan ["self"]) : HasMt P w K mg base "plan" 1 ["self"] (spO K F_Hall_plan 1) := by
  obtain ⟨ff, fd, MM, FF, bb⟩ := X_Hall_plan
  obtain ⟨W, hW, hw⟩ := w_Hall_plan T ff
  have o : FnOk P w K mg base CX0 1 ff fd ["self"] (spO K (runO [0] 1 1 B_Hall_plan) 1) := fnO (k := 0) FF sc_Hall_plan hw [0] hW
  exact ⟨ff, fd, MM, o, bb⟩
abbrev s_Hall_proportion : Stmt := mthS 50 6
theorem sc_Hall_proportion : FnScope ["self"] ["self"] (defScope s_Hall_proportion) := ⟨rfl, rfl, rfl, by decide +kernel, rfl, by decide +kernel, by decide +kernel⟩
def B_Hall_proportion : MS := (sRet (eApp F_hall_of (aCons (eHow 0) aNil)))
def F_Hall_proportion : List Sl → Option (D × List Sl) := runO [0] 1 1 B_Hall_proportion
theorem w_Hall_proportion (T : Txt K mg) (ff : Addr) {f_hall_of : Addr} {fd_hall_of : FuncData} (O_hall_of : FnOk P w K mg base CX0 8 f_hall_of fd_hall_of ["plan"] (spP K F_hall_of 1)) (g_hall_of : mg "hall_of" = some (.ref f_hall_of)) (k_hall_of : PySem.W.keepIn K (.ref f_hall_of) = true) (b_hall_of : Binds K fd_hall_of ["plan"] []) : ∃ W : List Nat, (∀ i ∈ ([0] : List Nat), i ∉ W) ∧ ∀ (cdv : Value) (A : Around) (outer : List Env) (s : Shared) (H : Hp) (E : XK), Room 8 (A.deeper (envOfC "Hall.proportion" (defScope s_Hall_proportion) s.heap.objs.size ff cdv)) → QSs (cxOf CX0 P w K mg base ["self"] "Hall.proportion" (defScope s_Hall_proportion) ff cdv A outer s H E).nox W (defBody s_Hall_proportion) B_Hall_proportion :=
  ⟨_, by decide, fun cdv A outer s H E hr => (qs_one (qs_ret (qe_call O_hall_of (hr.mono (by decide)) g_hall_of k_hall_of b_hall_of (qa_cons (qe_how 0 T.hal.cls) qa_nil))))⟩
theorem ok_Hall_proportion (T : Txt K mg) (X_Hall_proportion : DefMt K mg "proportion" "Hall.proportion" s_Hall_proportion ["self"]) (H_hall_of : Has P w K mg base "hall_of" 8 ["plan"] (spP K F_hall_of 1)) : HasMt P w K mg base "proportion" 9 ["self"] (spO K F_Hall_proportion 1) := by
  obtain ⟨f_hall_of, fd_hall_of, O_hall_of, g_hall_of, k_hall_of, b_hall_of⟩ := H_hall_of
  obtain ⟨ff, fd, MM, FF, bb⟩ := X_Hall_proportion
  obtain ⟨W, hW, hw⟩ := w_Hall_proportion T ff O_hall_of g_hall_of k_hall_of b_hall_of
  have o : FnOk P w K mg base CX0 9 ff fd ["self"] (spO K (runO [0] 1 1 B_Hall_proportion) 1) := fnO (k := 8) FF sc_Hall_proportion hw [0] hW
  exact ⟨ff, fd, MM, o, bb⟩
abbrev s_Hall_back : Stmt := mthS 50 7
theorem sc_Hall_back : FnScope ["self"] ["self"] (defScope s_Hall_back) := ⟨rfl, rfl, rfl, by decide +kernel, rfl, by decide +kernel, by decide +kernel⟩
def BX_Hall_back : MXS := (xCons (xIfS (cV (ePastNil 0)) (xRaise "Nothing") (xLift sNil)) (xLift (sSeq (sHow 0 (ePastPop 0)) (sRet (eCallsPop 0)))))
def G_Hall_back : List Sl → Option (Ex D × List Sl) := runOX [0] 1 1 BX_Hall_back
theorem wX_Hall_back (T : Txt K mg) (ff : Addr) : ∃ W : List Nat, (∀ i ∈ ([0] : List Nat), i ∉ W) ∧ ∀ (cdv : Value) (A : Around) (outer : List Env) (s : Shared) (H : Hp) (E : XK), Room 0 (A.deeper (envOfC "Hall.back" (defScope s_Hall_back) s.heap.objs.size ff cdv)) → PSs (cxOf (L2.CX P w) P w K mg base ["self"] "Hall.back" (defScope s_Hall_back) ff cdv A outer s H E) (defBody s_Hall_back) (tZS K (cmOf mg) (fun cls d _ H => E cls d H) W BX_Hall_back) :=
  ⟨_, by decide, fun cdv A outer s H E hr => (xss_cons (xs_if (qt_pastNil 0 T.hal.cls hr) (xss_one (xs_raise PySem.F.excBase_ValueError T.c_Nothing takes_cx)) (xss_lift qs_nil)) (xss_lift (qss_nox (qs_cons (qs_how 0 T.hal.cls (qe_pastPop 0 T.hal.cls)) (qs_one (qs_ret (qe_callsPop 0 T.hal.cls)))))))⟩
theorem okX_Hall_back (T : Txt K mg) (X_Hall_back : DefMt K mg "back" "Hall.back" s_Hall_back ["self"]) : HasMtX P w K mg base "back" 1 ["self"] (spOX K (cmOf mg) G_Hall_back 1) := by
  obtain ⟨ff, fd, MM, FF, bb⟩ := X_Hall_back
  obtain ⟨W, hW, hw⟩ := wX_Hall_back T ff
  have o : FnOk P w K mg base (L2.CX P w) 1 ff fd ["self"] (spOX K (cmOf mg) (runOX [0] 1 1 BX_Hall_back) 1) := fnOX (k := 0) FF sc_Hall_back hw [0] hW
  exact ⟨ff, fd, MM, o, bb⟩
abbrev s_Hall_eq : Stmt := mthS 50 9
theorem sc_Hall_eq : FnScope ["self", "other"] ["self", "other"] (defScope s_Hall_eq) := ⟨rfl, rfl, rfl, by decide +kernel, rfl, by decide +kernel, by decide +kernel⟩
def B_Hall_eq : MS := (sRet (eAnd (eIsHal 1) (eOp2 dEq (eHow 0) (eHow 1))))
def F_Hall_eq : List Sl → Option (D × List Sl) := runO [0, 1] 2 2 B_Hall_eq
theorem w_Hall_eq (T : Txt K mg) (ff : Addr) : ∃ W : List Nat, (∀ i ∈ ([0, 1] : List Nat), i ∉ W) ∧ ∀ (cdv : Value) (A : Around) (outer : List Env) (s : Shared) (H : Hp) (E : XK), Room 0 (A.deeper (envOfC "Hall.__eq__" (defScope s_Hall_eq) s.heap.objs.size ff cdv)) → QSs (cxOf CX0 P w K mg base ["self", "other"] "Hall.__eq__" (defScope s_Hall_eq) ff cdv A outer s H E).nox W (defBody s_Hall_eq) B_Hall_eq :=
  ⟨_, by decide, fun cdv A outer s H E hr => (qs_one (qs_ret (qe_and (qe_isHal 1 T.hal.cls T.hal.ins T.hal.kit T.b_isinstance T.hal.mg) (qe_one (qe_cmp (op_eqD hr.units) d_eq (qe_how 0 T.hal.cls) (qe_how 1 T.hal.cls))))))⟩
theorem ok_Hall_eq (T : Txt K mg) (X_Hall_eq : DefMt K mg "__eq__" "Hall.__eq__" s_Hall_eq ["self", "other"]) : HasMt P w K mg base "__eq__" 1 ["self", "other"] (spO K F_Hall_eq 2) := by
  obtain ⟨ff, fd, MM, FF, bb⟩ := X_Hall_eq
  obtain ⟨W, hW, hw⟩ := w_Hall_eq T ff
  have o : FnOk P w K mg base CX0 1 ff fd ["self", "other"] (spO K (runO [0, 1] 2 2 B_Hall_eq) 2) := fnO (k := 0) FF sc_Hall_eq hw [0, 1] hW
  exact ⟨ff, fd, MM, o, bb⟩
abbrev s_Hall_len : Stmt := mthS 50 10
theorem sc_Hall_len : FnScope ["self"] ["self"] (defScope s_Hall_len) := ⟨rfl, rfl, rfl, by decide +kernel, rfl, by decide +kernel, by decide +kernel⟩
def B_Hall_len : MS := (sRet (eApp dLen (aCons (eOp2 dIx (eHow 0) (eC (.int 1))) aNil)))
def F_Hall_len : List Sl → Option (D × List Sl) := runO [0] 1 1 B_Hall_len
theorem w_Hall_len (T : Txt K mg) (ff : Addr) : ∃ W : List Nat, (∀ i ∈ ([0] : List Nat), i ∉ W) ∧ ∀ (cdv : Value) (A : Around) (outer : List Env) (s : Shared) (H : Hp) (E : XK), Room 0 (A.deeper (envOfC "Hall.__len__" (defScope s_Hall_len) s.heap.objs.size ff cdv)) → QSs (cxOf CX0 P w K mg base ["self"] "Hall.__len__" (defScope s_Hall_len) ff cdv A outer s H E).nox W (defBody s_Hall_len) B_Hall_len :=
  ⟨_, by decide, fun cdv A outer s H E hr => (qs_one (qs_ret (qe_callB call_len_seq d_len T.b_len (qa_cons (qe_ix (qe_how 0 T.hal.cls) qe_int) qa_nil))))⟩
theorem ok_Hall_len (T : Txt K mg) (X_Hall_len : DefMt K mg "__len__" "Hall.__len__" s_Hall_len ["self"]) : HasMt P w K mg base "__len__" 1 ["self"] (spO K F_Hall_len 1) := by
  obtain ⟨ff, fd, MM, FF, bb⟩ := X_Hall_len
  obtain ⟨W, hW, hw⟩ := w_Hall_len T ff
  have o : FnOk P w K mg base CX0 1 ff fd ["self"] (spO K (runO [0] 1 1 B_Hall_len) 1) := fnO (k := 0) FF sc_Hall_len hw [0] hW
  exact ⟨ff, fd, MM, o, bb⟩
abbrev s_Hall_str : Stmt := mthS 50 11
theorem sc_Hall_str : FnScope ["self", "found", "one"] ["self"] (defScope s_Hall_str) := ⟨rfl, rfl, rfl, by decide +kernel, rfl, by decide +kernel, by decide +kernel⟩
def B_Hall_str : MS := (sSeq (sAsg (eApp F_hall_of (aCons (eHow 0) aNil)) (gSet 1)) (sSeq (sIf (cV (eOp2 dEq (eOp2 dIx (eVar 1) (eC (.int 1))) (eC (.int 1)))) (sRet (eApp dStrI (aCons (eOp2 dIx (eVar 1) (eC (.int 0))) aNil))) sNil) (sRet (eJoin (eC (.str "/")) (eLc [2] (iSeq (eVar 1)) (gSet 2) cTrue (eApp dStrI (aCons (eVar 2) aNil)))))))
def F_Hall_str : List Sl → Option (D × List Sl) := runO [0] 1 3 B_Hall_str
theorem w_Hall_str (T : Txt K mg) (ff : Addr) {f_hall_of : Addr} {fd_hall_of : FuncData} (O_hall_of : FnOk P w K mg base CX0 8 f_hall_of fd_hall_of ["plan"] (spP K F_hall_of 1)) (g_hall_of : mg "hall_of" = some (.ref f_hall_of)) (k_hall_of : PySem.W.keepIn K (.ref f_hall_of) = true) (b_hall_of : Binds K fd_hall_of ["plan"] []) : ∃ W : List Nat, (∀ i ∈ ([0] : List Nat), i ∉ W) ∧ ∀ (cdv : Value) (A : Around) (outer : List Env) (s : Shared) (H : Hp) (E : XK), Room 8 (A.deeper (envOfC "Hall.__str__" (defScope s_Hall_str) s.heap.objs.size ff cdv)) → QSs (cxOf CX0 P w K mg base ["self", "found", "one"] "Hall.__str__" (defScope s_Hall_str) ff cdv A outer s H E).nox W (defBody s_Hall_str) B_Hall_str :=
  ⟨_, by decide, fun cdv A outer s H E hr => (qs_cons (qs_set 1 sc_Hall_str.nd (qe_call O_hall_of (hr.mono (by decide)) g_hall_of k_hall_of b_hall_of (qa_cons (qe_how 0 T.hal.cls) qa_nil))) (qs_cons (qs_if (qt_cmp (op_eqD hr.units) d_eq (qe_ix (qe_var 1) qe_int) qe_int) (qs_one (qs_ret (qe_callTy call_str_int d_strI T.b_str (qa_cons (qe_ix (qe_var 1) qe_int) qa_nil)))) qs_nil) (qs_one (qs_ret (qe_join qe_str (qe_lc [("one", 2)] sc_Hall_str.nd (qi_seq (qe_var 1)) (blkOk_by (N := ["self", "found", "one"]) (sc := (defScope s_Hall_str)) (by decide +kernel)) (fun _ _ _ _ _ => (qg_name 2 sc_Hall_str.nd)) (fun _ _ _ _ _ => qts_nil) (fun _ _ _ _ _ => (qe_callTy call_str_int d_strI T.b_str (qa_cons (qe_var 2) qa_nil)))))))))⟩
theorem ok_Hall_str (T : Txt K mg) (X_Hall_str : DefMt K mg "__str__" "Hall.__str__" s_Hall_str ["self"]) (H_hall_of : Has P w K mg base "hall_of" 8 ["plan"] (spP K F_hall_of 1)) : HasMt P w K mg base "__str__" 9 ["self"] (spO K F_Hall_str 1) := by
  obtain ⟨f_hall_of, fd_hall_of, O_hall_of, g_hall_of, k_hall_of, b_hall_of⟩ := H_hall_of
  obtain ⟨ff, fd, MM, FF, bb⟩ := X_Hall_str
  obtain ⟨W, hW, hw⟩ := w_Hall_str T ff O_hall_of g_hall_of k_hall_of b_hall_of
  have o : FnOk P w K mg base CX0 9 ff fd ["self"] (spO K (runO [0] 1 3 B_Hall_str) 1) := fnO (k := 8) FF sc_Hall_str hw [0] hW
  exact ⟨ff, fd, MM, o, bb⟩
abbrev s__law_same_truth : Stmt := topS 52
theorem sc__law_same_truth : FnScope ["got", "due"] ["got", "due"] (defScope s__law_same_truth) := ⟨rfl, rfl, rfl, by decide +kernel, rfl, by decide +kernel, by decide +kernel⟩
def B__law_same_truth : MS := (sRet (eAnd (eOp1 (isaV "bool") (eVar 0)) (eOp2 dEq (eVar 0) (eVar 1))))
def F__law_same_truth : List D → Option D := runF 2 2 B__law_same_truth
theorem w__law_same_truth (T : Txt K mg) (ff : Addr) : ∃ W : List Nat, ∀ (cdv : Value) (A : Around) (outer : List Env) (s : Shared) (H : Hp) (E : XK), Room 0 (A.deeper (envOfC "_law_same_truth" (defScope s__law_same_truth) s.heap.objs.size ff cdv)) → QSs (cxOf CX0 P w K mg base ["got", "due"] "_law_same_truth" (defScope s__law_same_truth) ff cdv A outer s H E).nox W (defBody s__law_same_truth) B__law_same_truth :=
  ⟨_, fun cdv A outer s H E hr => (qs_one (qs_ret (qe_and (qe_isa (qe_var 0) T.b_isinstance T.b_bool) (qe_one (qe_cmp (op_eqD hr.units) d_eq (qe_var 0) (qe_var 1))))))⟩
theorem ok__law_same_truth (T : Txt K mg) (X__law_same_truth : Def K mg "_law_same_truth" "_law_same_truth" s__law_same_truth ["got", "due"]) : Has P w K mg base "_law_same_truth" 1 ["got", "due"] (spP K F__law_same_truth 2) := by
  obtain ⟨ff, fd, FF, gg, bb⟩ := X__law_same_truth
  obtain ⟨W, hw⟩ := w__law_same_truth T ff
  have o : FnOk P w K mg base CX0 1 ff fd ["got", "due"] (spP K (runF 2 2 B__law_same_truth) 2) := fnP (k := 0) FF sc__law_same_truth hw
  exact ⟨ff, fd, o, gg, FF.kp, bb⟩
abbrev s__law_which : Stmt := topS 53
theorem sc__law_which : FnScope ["e", "own"] ["e"] (defScope s__law_which) := ⟨rfl, rfl, rfl, by decide +kernel, rfl, by decide +kernel, by decide +kernel⟩
def B__law_which (t : Str → Bool) (a : Addr) : MS := (sSeq (sOwn 1 (oLst (aCons (eIsE 0 a (t "NoPlan")) (aCons (eIsE 0 a (t "NoLevels")) (aCons (eIsE 0 a (t "NoWidths")) (aCons (eIsE 0 a (t "NoBeam")) aNil)))))) (sSeq (sDrop (eExtend 1 (eApp mkLst (aCons (eIsE 0 a (t "NoRoom")) (aCons (eIsE 0 a (t "NoProportion")) (aCons (eIsE 0 a (t "Parted")) (aCons (eIsE 0 a (t "NoNest")) aNil))))))) (sSeq (sDrop (eExtend 1 (eApp mkLst (aCons (eIsE 0 a (t "NoText")) (aCons (eIsE 0 a (t "Nothing")) aNil))))) (sSeq (sIf (cOr (cV (eOp2 dNe (eCountT 1 (eC (.bool true))) (eC (.int 1)))) (cNot (cV (eIsE 0 a true)))) (sRet (eApp mkTup (aCons (eC (.str "refused")) (aCons (eNeg (eC (.int 1))) aNil)))) sNil) (sRet (eApp mkTup (aCons (eC (.str "refused")) (aCons (eIndexT 1 (eC (.bool true))) aNil))))))))
theorem w__law_which (T : Txt K mg) (ff C : Addr) (t : Str → Bool) (EC : ExcC K C) (qV : PySem.W.kitOne K (.ref C) (.type "ValueError") = some true) {D_NoPlan : Addr} (m_NoPlan : mg "NoPlan" = some (.ref D_NoPlan)) (q_NoPlan : PySem.W.kitOne K (.ref C) (.ref D_NoPlan) = some (t "NoPlan")) {D_NoLevels : Addr} (m_NoLevels : mg "NoLevels" = some (.ref D_NoLevels)) (q_NoLevels : PySem.W.kitOne K (.ref C) (.ref D_NoLevels) = some (t "NoLevels")) {D_NoWidths : Addr} (m_NoWidths : mg "NoWidths" = some (.ref D_NoWidths)) (q_NoWidths : PySem.W.kitOne K (.ref C) (.ref D_NoWidths) = some (t "NoWidths")) {D_NoBeam : Addr} (m_NoBeam : mg "NoBeam" = some (.ref D_NoBeam)) (q_NoBeam : PySem.W.kitOne K (.ref C) (.ref D_NoBeam) = some (t "NoBeam")) {D_NoRoom : Addr} (m_NoRoom : mg "NoRoom" = some (.ref D_NoRoom)) (q_NoRoom : PySem.W.kitOne K (.ref C) (.ref D_NoRoom) = some (t "NoRoom")) {D_NoProportion : Addr} (m_NoProportion : mg "NoProportion" = some (.ref D_NoProportion)) (q_NoProportion : PySem.W.kitOne K (.ref C) (.ref D_NoProportion) = some (t "NoProportion")) {D_Parted : Addr} (m_Parted : mg "Parted" = some (.ref D_Parted)) (q_Parted : PySem.W.kitOne K (.ref C) (.ref D_Parted) = some (t "Parted")) {D_NoNest : Addr} (m_NoNest : mg "NoNest" = some (.ref D_NoNest)) (q_NoNest : PySem.W.kitOne K (.ref C) (.ref D_NoNest) = some (t "NoNest")) {D_NoText : Addr} (m_NoText : mg "NoText" = some (.ref D_NoText)) (q_NoText : PySem.W.kitOne K (.ref C) (.ref D_NoText) = some (t "NoText")) {D_Nothing : Addr} (m_Nothing : mg "Nothing" = some (.ref D_Nothing)) (q_Nothing : PySem.W.kitOne K (.ref C) (.ref D_Nothing) = some (t "Nothing")) : ∃ W : List Nat, ∀ (cdv : Value) (A : Around) (outer : List Env) (s : Shared) (H : Hp) (E : XK) (a : Addr) (oe : Obj), L2H.RoomH 0 (A.deeper (envOfC "_law_which" (defScope s__law_which) s.heap.objs.size ff cdv)) → Zc (.ref C) none oe → (∃ vs, oe.data = .fields vs) → QSs (L2H.cxH CX0 P w K mg base ["e", "own"] "_law_which" (defScope s__law_which) ff cdv A outer s H E (a, oe)) W (defBody s__law_which) (B__law_which t a) :=
  ⟨_, fun cdv A outer s H E a oe hr hz hf => (qs_cons (qs_own 1 sc__law_which.nd (qo_lst (qa_cons (qe_isE 0 EC List.mem_cons_self hz hf (pe_glob (v := .ref D_NoPlan) rfl m_NoPlan rfl) (fun _ h => h) q_NoPlan T.b_isinstance) (qa_cons (qe_isE 0 EC List.mem_cons_self hz hf (pe_glob (v := .ref D_NoLevels) rfl m_NoLevels rfl) (fun _ h => h) q_NoLevels T.b_isinstance) (qa_cons (qe_isE 0 EC List.mem_cons_self hz hf (pe_glob (v := .ref D_NoWidths) rfl m_NoWidths rfl) (fun _ h => h) q_NoWidths T.b_isinstance) (qa_cons (qe_isE 0 EC List.mem_cons_self hz hf (pe_glob (v := .ref D_NoBeam) rfl m_NoBeam rfl) (fun _ h => h) q_NoBeam T.b_isinstance) qa_nil)))))) (qs_cons (qs_expr (qe_extend 1 (qe_lst (qa_cons (qe_isE 0 EC List.mem_cons_self hz hf (pe_glob (v := .ref D_NoRoom) rfl m_NoRoom rfl) (fun _ h => h) q_NoRoom T.b_isinstance) (qa_cons (qe_isE 0 EC List.mem_cons_self hz hf (pe_glob (v := .ref D_NoProportion) rfl m_NoProportion rfl) (fun _ h => h) q_NoProportion T.b_isinstance) (qa_cons (qe_isE 0 EC List.mem_cons_self hz hf (pe_glob (v := .ref D_Parted) rfl m_Parted rfl) (fun _ h => h) q_Parted T.b_isinstance) (qa_cons (qe_isE 0 EC List.mem_cons_self hz hf (pe_glob (v := .ref D_NoNest) rfl m_NoNest rfl) (fun _ h => h) q_NoNest T.b_isinstance) qa_nil))))))) (qs_cons (qs_expr (qe_extend 1 (qe_lst (qa_cons (qe_isE 0 EC List.mem_cons_self hz hf (pe_glob (v := .ref D_NoText) rfl m_NoText rfl) (fun _ h => h) q_NoText T.b_isinstance) (qa_cons (qe_isE 0 EC List.mem_cons_self hz hf (pe_glob (v := .ref D_Nothing) rfl m_Nothing rfl) (fun _ h => h) q_Nothing T.b_isinstance) qa_nil))))) (qs_cons (qs_if (qw_pt (qw_or (qt_cmp (op_neD hr.units) d_ne (qe_countT 1 qe_bl) qe_int) (qw_or1 (qt_not (qt_val (qe_isE 0 EC List.mem_cons_self hz hf (pe_bltn (v := .ty "ValueError") rfl T.b_ValueError (by decide +kernel) rfl (by decide) (by decide)) (fun _ h => h) qV T.b_isinstance)))))) (qs_one (qs_ret (qe_tup (qa_cons qe_str (qa_cons (qe_neg qe_int) qa_nil))))) qs_nil) (qs_one (qs_ret (qe_tup (qa_cons qe_str (qa_cons (qe_indexT 1 qe_bl) qa_nil)))))))))⟩
def whT (z : Str) : Option D := if z = "NoPlan" then some (.tuple [.str "refused", .int 0]) else if z = "NoRoom" then some (.tuple [.str "refused", .int 4]) else if z = "NoProportion" then some (.tuple [.str "refused", .int 5]) else if z = "Parted" then some (.tuple [.str "refused", .int 6]) else if z = "Nothing" then some (.tuple [.str "refused", .int 9]) else none
theorem whT_in {z : Str} {d : D} (h : whT z = some d) : (z = "NoPlan" ∧ d = .tuple [.str "refused", .int 0]) ∨ (z = "NoRoom" ∧ d = .tuple [.str "refused", .int 4]) ∨ (z = "NoProportion" ∧ d = .tuple [.str "refused", .int 5]) ∨ (z = "Parted" ∧ d = .tuple [.str "refused", .int 6]) ∨ (z = "Nothing" ∧ d = .tuple [.str "refused", .int 9]) := by
  unfold whT at h
  split at h
  · exact Or.inl ⟨‹_›, by cases h; rfl⟩
  split at h
  · exact Or.inr (Or.inl ⟨‹_›, by cases h; rfl⟩)
  split at h
  · exact Or.inr (Or.inr (Or.inl ⟨‹_›, by cases h; rfl⟩))
  split at h
  · exact Or.inr (Or.inr (Or.inr (Or.inl ⟨‹_›, by cases h; rfl⟩)))
  split at h
  · exact Or.inr (Or.inr (Or.inr (Or.inr (⟨‹_›, by cases h; rfl⟩))))
  cases h
theorem whT_RoomError (T : Txt K mg) : ∀ z d, whT z = some d → PySem.W.exmOne K (cmOf mg z) (cmOf mg "RoomError") = some true := fun z d h => by
  rcases whT_in h with ⟨rfl, rfl⟩ | ⟨rfl, rfl⟩ | ⟨rfl, rfl⟩ | ⟨rfl, rfl⟩ | ⟨rfl, rfl⟩
  · exact T.x_NoPlan_RoomError
  · exact T.x_NoRoom_RoomError
  · exact T.x_NoProportion_RoomError
  · exact T.x_Parted_RoomError
  · exact T.x_Nothing_RoomError

theorem whB_NoPlan (a : Addr) : ∃ ρ', B__law_which (whTt "NoPlan") a (Sl.ref (.adr a) :: List.replicate (2 - 1) Sl.un) = some (.rt (.tuple [.str "refused", .int 0]), ρ') := by
  have e : ∀ b ρ, eIsE 0 a b (Sl.ref (.adr a) :: ρ) = some (.bool b, Sl.ref (.adr a) :: ρ) := fun b ρ => by unfold eIsE; simp
  have e0 : whTt "NoPlan" "NoPlan" = true := by decide
  have e1 : whTt "NoPlan" "NoLevels" = false := by decide
  have e2 : whTt "NoPlan" "NoWidths" = false := by decide
  have e3 : whTt "NoPlan" "NoBeam" = false := by decide
  have e4 : whTt "NoPlan" "NoRoom" = false := by decide
  have e5 : whTt "NoPlan" "NoProportion" = false := by decide
  have e6 : whTt "NoPlan" "Parted" = false := by decide
  have e7 : whTt "NoPlan" "NoNest" = false := by decide
  have e8 : whTt "NoPlan" "NoText" = false := by decide
  have e9 : whTt "NoPlan" "Nothing" = false := by decide
  have c0 : dNe (PyData.int ((List.count true [true, false, false, false, false, false, false, false, false, false] : Nat) : Int)) (PyData.int 1) = some (.bool false) := rfl
  have c1 : (true ∈ [true, false, false, false, false, false, false, false, false, false]) = True := by simp
  refine ⟨[Sl.ref (.adr a), .own (.lst [.bool true, .bool false, .bool false, .bool false, .bool false, .bool false, .bool false, .bool false, .bool false, .bool false])], ?_⟩
  unfold B__law_which
  simp only [sSeq, sIf, sNil, sAsg, sRet, sDrop, cV, cAnd, cOr, cNot, cTrue, eOp2, eOp1, eVar, eC, eApp, aCons, aNil, eIf, eAnd, eOr, eNot, eChain, eNeg, asB, dLt, dLe, dGt, dGe, dSub, dAbs, dMin, dMax, dLen, dList, dTuple, mkTup, mkLst, gSet, QL.gTup, gTupF, unTup, sPar2, xDat, xOwn, xNil, noScr, sOwn, oLst, iSeq, asSeq, iApp, endOf, List.map_cons, List.map_nil, List.length_cons, List.length_nil, List.length_set, List.replicate, List.cons_append, List.nil_append, List.getElem?_cons_zero, List.getElem?_cons_succ, List.getElem?_nil, Option.bind_some, Option.bind_none, Option.map_some, Option.map_none, List.set_cons_zero, List.set_cons_succ, List.set_nil, Bool.false_eq_true, if_false, if_true, ne_eq, not_false_eq_true, not_true_eq_false, and_self, and_true, true_and, Bool.not_true, Bool.not_false, Bool.and_true, Bool.true_and, Nat.reduceAdd, Nat.reduceSub, Nat.reduceLeDiff, Nat.reduceLT, Nat.reduceEqDiff, Nat.lt_irrefl, decide_true, decide_false, Option.getD_some, ownL, scrAt, eExtend, eAppend, eCountT, eIndexT, e, boolsOf, c0, c1, e0, e1, e2, e3, e4, e5, e6, e7, e8, e9]
  rfl
theorem whB_NoRoom (a : Addr) : ∃ ρ', B__law_which (whTt "NoRoom") a (Sl.ref (.adr a) :: List.replicate (2 - 1) Sl.un) = some (.rt (.tuple [.str "refused", .int 4]), ρ') := by
  have e : ∀ b ρ, eIsE 0 a b (Sl.ref (.adr a) :: ρ) = some (.bool b, Sl.ref (.adr a) :: ρ) := fun b ρ => by unfold eIsE; simp
  have e0 : whTt "NoRoom" "NoPlan" = false := by decide
  have e1 : whTt "NoRoom" "NoLevels" = false := by decide
  have e2 : whTt "NoRoom" "NoWidths" = false := by decide
  have e3 : whTt "NoRoom" "NoBeam" = false := by decide
  have e4 : whTt "NoRoom" "NoRoom" = true := by decide
  have e5 : whTt "NoRoom" "NoProportion" = false := by decide
  have e6 : whTt "NoRoom" "Parted" = false := by decide
  have e7 : whTt "NoRoom" "NoNest" = false := by decide
  have e8 : whTt "NoRoom" "NoText" = false := by decide
  have e9 : whTt "NoRoom" "Nothing" = false := by decide
  have c0 : dNe (PyData.int ((List.count true [false, false, false, false, true, false, false, false, false, false] : Nat) : Int)) (PyData.int 1) = some (.bool false) := rfl
  have c1 : (true ∈ [false, false, false, false, true, false, false, false, false, false]) = True := by simp
  refine ⟨[Sl.ref (.adr a), .own (.lst [.bool false, .bool false, .bool false, .bool false, .bool true, .bool false, .bool false, .bool false, .bool false, .bool false])], ?_⟩
  unfold B__law_which
  simp only [sSeq, sIf, sNil, sAsg, sRet, sDrop, cV, cAnd, cOr, cNot, cTrue, eOp2, eOp1, eVar, eC, eApp, aCons, aNil, eIf, eAnd, eOr, eNot, eChain, eNeg, asB, dLt, dLe, dGt, dGe, dSub, dAbs, dMin, dMax, dLen, dList, dTuple, mkTup, mkLst, gSet, QL.gTup, gTupF, unTup, sPar2, xDat, xOwn, xNil, noScr, sOwn, oLst, iSeq, asSeq, iApp, endOf, List.map_cons, List.map_nil, List.length_cons, List.length_nil, List.length_set, List.replicate, List.cons_append, List.nil_append, List.getElem?_cons_zero, List.getElem?_cons_succ, List.getElem?_nil, Option.bind_some, Option.bind_none, Option.map_some, Option.map_none, List.set_cons_zero, List.set_cons_succ, List.set_nil, Bool.false_eq_true, if_false, if_true, ne_eq, not_false_eq_true, not_true_eq_false, and_self, and_true, true_and, Bool.not_true, Bool.not_false, Bool.and_true, Bool.true_and, Nat.reduceAdd, Nat.reduceSub, Nat.reduceLeDiff, Nat.reduceLT, Nat.reduceEqDiff, Nat.lt_irrefl, decide_true, decide_false, Option.getD_some, ownL, scrAt, eExtend, eAppend, eCountT, eIndexT, e, boolsOf, c0, c1, e0, e1, e2, e3, e4, e5, e6, e7, e8, e9]
  rfl
theorem whB_NoProportion (a : Addr) : ∃ ρ', B__law_which (whTt "NoProportion") a (Sl.ref (.adr a) :: List.replicate (2 - 1) Sl.un) = some (.rt (.tuple [.str "refused", .int 5]), ρ') := by
  have e : ∀ b ρ, eIsE 0 a b (Sl.ref (.adr a) :: ρ) = some (.bool b, Sl.ref (.adr a) :: ρ) := fun b ρ => by unfold eIsE; simp
  have e0 : whTt "NoProportion" "NoPlan" = false := by decide
  have e1 : whTt "NoProportion" "NoLevels" = false := by decide
  have e2 : whTt "NoProportion" "NoWidths" = false := by decide
  have e3 : whTt "NoProportion" "NoBeam" = false := by decide
  have e4 : whTt "NoProportion" "NoRoom" = false := by decide
  have e5 : whTt "NoProportion" "NoProportion" = true := by decide
  have e6 : whTt "NoProportion" "Parted" = false := by decide
  have e7 : whTt "NoProportion" "NoNest" = false := by decide
  have e8 : whTt "NoProportion" "NoText" = false := by decide
  have e9 : whTt "NoProportion" "Nothing" = false := by decide
  have c0 : dNe (PyData.int ((List.count true [false, false, false, false, false, true, false, false, false, false] : Nat) : Int)) (PyData.int 1) = some (.bool false) := rfl
  have c1 : (true ∈ [false, false, false, false, false, true, false, false, false, false]) = True := by simp
  refine ⟨[Sl.ref (.adr a), .own (.lst [.bool false, .bool false, .bool false, .bool false, .bool false, .bool true, .bool false, .bool false, .bool false, .bool false])], ?_⟩
  unfold B__law_which
  simp only [sSeq, sIf, sNil, sAsg, sRet, sDrop, cV, cAnd, cOr, cNot, cTrue, eOp2, eOp1, eVar, eC, eApp, aCons, aNil, eIf, eAnd, eOr, eNot, eChain, eNeg, asB, dLt, dLe, dGt, dGe, dSub, dAbs, dMin, dMax, dLen, dList, dTuple, mkTup, mkLst, gSet, QL.gTup, gTupF, unTup, sPar2, xDat, xOwn, xNil, noScr, sOwn, oLst, iSeq, asSeq, iApp, endOf, List.map_cons, List.map_nil, List.length_cons, List.length_nil, List.length_set, List.replicate, List.cons_append, List.nil_append, List.getElem?_cons_zero, List.getElem?_cons_succ, List.getElem?_nil, Option.bind_some, Option.bind_none, Option.map_some, Option.map_none, List.set_cons_zero, List.set_cons_succ, List.set_nil, Bool.false_eq_true, if_false, if_true, ne_eq, not_false_eq_true, not_true_eq_false, and_self, and_true, true_and, Bool.not_true, Bool.not_false, Bool.and_true, Bool.true_and, Nat.reduceAdd, Nat.reduceSub, Nat.reduceLeDiff, Nat.reduceLT, Nat.reduceEqDiff, Nat.lt_irrefl, decide_true, decide_false, Option.getD_some, ownL, scrAt, eExtend, eAppend, eCountT, eIndexT, e, boolsOf, c0, c1, e0, e1, e2, e3, e4, e5, e6, e7, e8, e9]
  rfl
theorem whB_Parted (a : Addr) : ∃ ρ', B__law_which (whTt "Parted") a (Sl.ref (.adr a) :: List.replicate (2 - 1) Sl.un) = some (.rt (.tuple [.str "refused", .int 6]), ρ') := by
  have e : ∀ b ρ, eIsE 0 a b (Sl.ref (.adr a) :: ρ) = some (.bool b, Sl.ref (.adr a) :: ρ) := fun b ρ => by unfold eIsE; simp
  have e0 : whTt "Parted" "NoPlan" = false := by decide
  have e1 : whTt "Parted" "NoLevels" = false := by decide
  have e2 : whTt "Parted" "NoWidths" = false := by decide
  have e3 : whTt "Parted" "NoBeam" = false := by decide
  have e4 : whTt "Parted" "NoRoom" = false := by decide
  have e5 : whTt "Parted" "NoProportion" = false := by decide
  have e6 : whTt "Parted" "Parted" = true := by decide
  have e7 : whTt "Parted" "NoNest" = false := by decide
  have e8 : whTt "Parted" "NoText" = false := by decide
  have e9 : whTt "Parted" "Nothing" = false := by decide
  have c0 : dNe (PyData.int ((List.count true [false, false, false, false, false, false, true, false, false, false] : Nat) : Int)) (PyData.int 1) = some (.bool false) := rfl
  have c1 : (true ∈ [false, false, false, false, false, false, true, false, false, false]) = True := by simp
  refine ⟨[Sl.ref (.adr a), .own (.lst [.bool false, .bool false, .bool false, .bool false, .bool false, .bool false, .bool true, .bool false, .bool false, .bool false])], ?_⟩
  unfold B__law_which
  simp only [sSeq, sIf, sNil, sAsg, sRet, sDrop, cV, cAnd, cOr, cNot, cTrue, eOp2, eOp1, eVar, eC, eApp, aCons, aNil, eIf, eAnd, eOr, eNot, eChain, eNeg, asB, dLt, dLe, dGt, dGe, dSub, dAbs, dMin, dMax, dLen, dList, dTuple, mkTup, mkLst, gSet, QL.gTup, gTupF, unTup, sPar2, xDat, xOwn, xNil, noScr, sOwn, oLst, iSeq, asSeq, iApp, endOf, List.map_cons, List.map_nil, List.length_cons, List.length_nil, List.length_set, List.replicate, List.cons_append, List.nil_append, List.getElem?_cons_zero, List.getElem?_cons_succ, List.getElem?_nil, Option.bind_some, Option.bind_none, Option.map_some, Option.map_none, List.set_cons_zero, List.set_cons_succ, List.set_nil, Bool.false_eq_true, if_false, if_true, ne_eq, not_false_eq_true, not_true_eq_false, and_self, and_true, true_and, Bool.not_true, Bool.not_false, Bool.and_true, Bool.true_and, Nat.reduceAdd, Nat.reduceSub, Nat.reduceLeDiff, Nat.reduceLT, Nat.reduceEqDiff, Nat.lt_irrefl, decide_true, decide_false, Option.getD_some, ownL, scrAt, eExtend, eAppend, eCountT, eIndexT, e, boolsOf, c0, c1, e0, e1, e2, e3, e4, e5, e6, e7, e8, e9]
  rfl
theorem whB_Nothing (a : Addr) : ∃ ρ', B__law_which (whTt "Nothing") a (Sl.ref (.adr a) :: List.replicate (2 - 1) Sl.un) = some (.rt (.tuple [.str "refused", .int 9]), ρ') := by
  have e : ∀ b ρ, eIsE 0 a b (Sl.ref (.adr a) :: ρ) = some (.bool b, Sl.ref (.adr a) :: ρ) := fun b ρ => by unfold eIsE; simp
  have e0 : whTt "Nothing" "NoPlan" = false := by decide
  have e1 : whTt "Nothing" "NoLevels" = false := by decide
  have e2 : whTt "Nothing" "NoWidths" = false := by decide
  have e3 : whTt "Nothing" "NoBeam" = false := by decide
  have e4 : whTt "Nothing" "NoRoom" = false := by decide
  have e5 : whTt "Nothing" "NoProportion" = false := by decide
  have e6 : whTt "Nothing" "Parted" = false := by decide
  have e7 : whTt "Nothing" "NoNest" = false := by decide
  have e8 : whTt "Nothing" "NoText" = false := by decide
  have e9 : whTt "Nothing" "Nothing" = true := by decide
  have c0 : dNe (PyData.int ((List.count true [false, false, false, false, false, false, false, false, false, true] : Nat) : Int)) (PyData.int 1) = some (.bool false) := rfl
  have c1 : (true ∈ [false, false, false, false, false, false, false, false, false, true]) = True := by simp
  refine ⟨[Sl.ref (.adr a), .own (.lst [.bool false, .bool false, .bool false, .bool false, .bool false, .bool false, .bool false, .bool false, .bool false, .bool true])], ?_⟩
  unfold B__law_which
  simp only [sSeq, sIf, sNil, sAsg, sRet, sDrop, cV, cAnd, cOr, cNot, cTrue, eOp2, eOp1, eVar, eC, eApp, aCons, aNil, eIf, eAnd, eOr, eNot, eChain, eNeg, asB, dLt, dLe, dGt, dGe, dSub, dAbs, dMin, dMax, dLen, dList, dTuple, mkTup, mkLst, gSet, QL.gTup, gTupF, unTup, sPar2, xDat, xOwn, xNil, noScr, sOwn, oLst, iSeq, asSeq, iApp, endOf, List.map_cons, List.map_nil, List.length_cons, List.length_nil, List.length_set, List.replicate, List.cons_append, List.nil_append, List.getElem?_cons_zero, List.getElem?_cons_succ, List.getElem?_nil, Option.bind_some, Option.bind_none, Option.map_some, Option.map_none, List.set_cons_zero, List.set_cons_succ, List.set_nil, Bool.false_eq_true, if_false, if_true, ne_eq, not_false_eq_true, not_true_eq_false, and_self, and_true, true_and, Bool.not_true, Bool.not_false, Bool.and_true, Bool.true_and, Nat.reduceAdd, Nat.reduceSub, Nat.reduceLeDiff, Nat.reduceLT, Nat.reduceEqDiff, Nat.lt_irrefl, decide_true, decide_false, Option.getD_some, ownL, scrAt, eExtend, eAppend, eCountT, eIndexT, e, boolsOf, c0, c1, e0, e1, e2, e3, e4, e5, e6, e7, e8, e9]
  rfl
def HasW (P : Program) (w : World) (K : QL.Fr) (mg : Str → Option Value) (base : Heap) : Prop := ∃ f fd, (∀ z d, whT z = some d → ∃ C, cmOf mg z = .ref C ∧ FnW P w K mg base 1 f fd "e" C d) ∧ mg "_law_which" = some (.ref f) ∧ PySem.W.keepIn K (.ref f) = true ∧ Binds K fd ["e"] []
theorem okW (T : Txt K mg) (X__law_which : Def K mg "_law_which" "_law_which" s__law_which ["e"]) : HasW P w K mg base := by
  obtain ⟨ff, fd, FF, gg, bb⟩ := X__law_which
  refine ⟨ff, fd, fun z d h => ?_, gg, FF.kp, bb⟩
  rcases whT_in h with ⟨rfl, rfl⟩ | ⟨rfl, rfl⟩ | ⟨rfl, rfl⟩ | ⟨rfl, rfl⟩ | ⟨rfl, rfl⟩
  · obtain ⟨C, eC, EC, qV, hy⟩ := T.w_NoPlan.ex
    obtain ⟨D_NoPlan, m_NoPlan, q_NoPlan⟩ := hy "NoPlan" (by decide)
    obtain ⟨D_NoLevels, m_NoLevels, q_NoLevels⟩ := hy "NoLevels" (by decide)
    obtain ⟨D_NoWidths, m_NoWidths, q_NoWidths⟩ := hy "NoWidths" (by decide)
    obtain ⟨D_NoBeam, m_NoBeam, q_NoBeam⟩ := hy "NoBeam" (by decide)
    obtain ⟨D_NoRoom, m_NoRoom, q_NoRoom⟩ := hy "NoRoom" (by decide)
    obtain ⟨D_NoProportion, m_NoProportion, q_NoProportion⟩ := hy "NoProportion" (by decide)
    obtain ⟨D_Parted, m_Parted, q_Parted⟩ := hy "Parted" (by decide)
    obtain ⟨D_NoNest, m_NoNest, q_NoNest⟩ := hy "NoNest" (by decide)
    obtain ⟨D_NoText, m_NoText, q_NoText⟩ := hy "NoText" (by decide)
    obtain ⟨D_Nothing, m_Nothing, q_Nothing⟩ := hy "Nothing" (by decide)
    obtain ⟨W, hw⟩ := w__law_which (P := P) (w := w) (base := base) T ff C (whTt "NoPlan") EC qV m_NoPlan q_NoPlan m_NoLevels q_NoLevels m_NoWidths q_NoWidths m_NoBeam q_NoBeam m_NoRoom q_NoRoom m_NoProportion q_NoProportion m_Parted q_Parted m_NoNest q_NoNest m_NoText q_NoText m_Nothing q_Nothing
    exact ⟨C, eC, fnW FF sc__law_which hw whB_NoPlan⟩
  · obtain ⟨C, eC, EC, qV, hy⟩ := T.w_NoRoom.ex
    obtain ⟨D_NoPlan, m_NoPlan, q_NoPlan⟩ := hy "NoPlan" (by decide)
    obtain ⟨D_NoLevels, m_NoLevels, q_NoLevels⟩ := hy "NoLevels" (by decide)
    obtain ⟨D_NoWidths, m_NoWidths, q_NoWidths⟩ := hy "NoWidths" (by decide)
    obtain ⟨D_NoBeam, m_NoBeam, q_NoBeam⟩ := hy "NoBeam" (by decide)
    obtain ⟨D_NoRoom, m_NoRoom, q_NoRoom⟩ := hy "NoRoom" (by decide)
    obtain ⟨D_NoProportion, m_NoProportion, q_NoProportion⟩ := hy "NoProportion" (by decide)
    obtain ⟨D_Parted, m_Parted, q_Parted⟩ := hy "Parted" (by decide)
    obtain ⟨D_NoNest, m_NoNest, q_NoNest⟩ := hy "NoNest" (by decide)
    obtain ⟨D_NoText, m_NoText, q_NoText⟩ := hy "NoText" (by decide)
    obtain ⟨D_Nothing, m_Nothing, q_Nothing⟩ := hy "Nothing" (by decide)
    obtain ⟨W, hw⟩ := w__law_which (P := P) (w := w) (base := base) T ff C (whTt "NoRoom") EC qV m_NoPlan q_NoPlan m_NoLevels q_NoLevels m_NoWidths q_NoWidths m_NoBeam q_NoBeam m_NoRoom q_NoRoom m_NoProportion q_NoProportion m_Parted q_Parted m_NoNest q_NoNest m_NoText q_NoText m_Nothing q_Nothing
    exact ⟨C, eC, fnW FF sc__law_which hw whB_NoRoom⟩
  · obtain ⟨C, eC, EC, qV, hy⟩ := T.w_NoProportion.ex
    obtain ⟨D_NoPlan, m_NoPlan, q_NoPlan⟩ := hy "NoPlan" (by decide)
    obtain ⟨D_NoLevels, m_NoLevels, q_NoLevels⟩ := hy "NoLevels" (by decide)
    obtain ⟨D_NoWidths, m_NoWidths, q_NoWidths⟩ := hy "NoWidths" (by decide)
    obtain ⟨D_NoBeam, m_NoBeam, q_NoBeam⟩ := hy "NoBeam" (by decide)
    obtain ⟨D_NoRoom, m_NoRoom, q_NoRoom⟩ := hy "NoRoom" (by decide)
    obtain ⟨D_NoProportion, m_NoProportion, q_NoProportion⟩ := hy "NoProportion" (by decide)
    obtain ⟨D_Parted, m_Parted, q_Parted⟩ := hy "Parted" (by decide)
    obtain ⟨D_NoNest, m_NoNest, q_NoNest⟩ := hy "NoNest" (by decide)
    obtain ⟨D_NoText, m_NoText, q_NoText⟩ := hy "NoText" (by decide)
    obtain ⟨D_Nothing, m_Nothing, q_Nothing⟩ := hy "Nothing" (by decide)
    obtain ⟨W, hw⟩ := w__law_which (P := P) (w := w) (base := base) T ff C (whTt "NoProportion") EC qV m_NoPlan q_NoPlan m_NoLevels q_NoLevels m_NoWidths q_NoWidths m_NoBeam q_NoBeam m_NoRoom q_NoRoom m_NoProportion q_NoProportion m_Parted q_Parted m_NoNest q_NoNest m_NoText q_NoText m_Nothing q_Nothing
    exact ⟨C, eC, fnW FF sc__law_which hw whB_NoProportion⟩
  · obtain ⟨C, eC, EC, qV, hy⟩ := T.w_Parted.ex
    obtain ⟨D_NoPlan, m_NoPlan, q_NoPlan⟩ := hy "NoPlan" (by decide)
    obtain ⟨D_NoLevels, m_NoLevels, q_NoLevels⟩ := hy "NoLevels" (by decide)
    obtain ⟨D_NoWidths, m_NoWidths, q_NoWidths⟩ := hy "NoWidths" (by decide)
    obtain ⟨D_NoBeam, m_NoBeam, q_NoBeam⟩ := hy "NoBeam" (by decide)
    obtain ⟨D_NoRoom, m_NoRoom, q_NoRoom⟩ := hy "NoRoom" (by decide)
    obtain ⟨D_NoProportion, m_NoProportion, q_NoProportion⟩ := hy "NoProportion" (by decide)
    obtain ⟨D_Parted, m_Parted, q_Parted⟩ := hy "Parted" (by decide)
    obtain ⟨D_NoNest, m_NoNest, q_NoNest⟩ := hy "NoNest" (by decide)
    obtain ⟨D_NoText, m_NoText, q_NoText⟩ := hy "NoText" (by decide)
    obtain ⟨D_Nothing, m_Nothing, q_Nothing⟩ := hy "Nothing" (by decide)
    obtain ⟨W, hw⟩ := w__law_which (P := P) (w := w) (base := base) T ff C (whTt "Parted") EC qV m_NoPlan q_NoPlan m_NoLevels q_NoLevels m_NoWidths q_NoWidths m_NoBeam q_NoBeam m_NoRoom q_NoRoom m_NoProportion q_NoProportion m_Parted q_Parted m_NoNest q_NoNest m_NoText q_NoText m_Nothing q_Nothing
    exact ⟨C, eC, fnW FF sc__law_which hw whB_Parted⟩
  · obtain ⟨C, eC, EC, qV, hy⟩ := T.w_Nothing.ex
    obtain ⟨D_NoPlan, m_NoPlan, q_NoPlan⟩ := hy "NoPlan" (by decide)
    obtain ⟨D_NoLevels, m_NoLevels, q_NoLevels⟩ := hy "NoLevels" (by decide)
    obtain ⟨D_NoWidths, m_NoWidths, q_NoWidths⟩ := hy "NoWidths" (by decide)
    obtain ⟨D_NoBeam, m_NoBeam, q_NoBeam⟩ := hy "NoBeam" (by decide)
    obtain ⟨D_NoRoom, m_NoRoom, q_NoRoom⟩ := hy "NoRoom" (by decide)
    obtain ⟨D_NoProportion, m_NoProportion, q_NoProportion⟩ := hy "NoProportion" (by decide)
    obtain ⟨D_Parted, m_Parted, q_Parted⟩ := hy "Parted" (by decide)
    obtain ⟨D_NoNest, m_NoNest, q_NoNest⟩ := hy "NoNest" (by decide)
    obtain ⟨D_NoText, m_NoText, q_NoText⟩ := hy "NoText" (by decide)
    obtain ⟨D_Nothing, m_Nothing, q_Nothing⟩ := hy "Nothing" (by decide)
    obtain ⟨W, hw⟩ := w__law_which (P := P) (w := w) (base := base) T ff C (whTt "Nothing") EC qV m_NoPlan q_NoPlan m_NoLevels q_NoLevels m_NoWidths q_NoWidths m_NoBeam q_NoBeam m_NoRoom q_NoRoom m_NoProportion q_NoProportion m_Parted q_Parted m_NoNest q_NoNest m_NoText q_NoText m_Nothing q_Nothing
    exact ⟨C, eC, fnW FF sc__law_which hw whB_Nothing⟩

abbrev s__law_ask : Stmt := topS 54
theorem sc__law_ask : FnScope ["what", "here", "one", "two", "e"] ["what", "here", "one", "two"] (defScope s__law_ask) := ⟨rfl, rfl, rfl, by decide +kernel, rfl, by decide +kernel, by decide +kernel⟩
def B__law_ask : MS := (sTryW 4 (xCons (xIfS (cV (eOp2 dEq (eVar 0) (eC (.int 0)))) (xRet (xMeth G_Hall_put 1 (yDat (eVar 2) yNil))) (xLift sNil)) (xCons (xIfS (cV (eOp2 dEq (eVar 0) (eC (.int 1)))) (xRet (xMeth G_Hall_take 1 (yDat (eVar 2) yNil))) (xLift sNil)) (xRet (xIfE (cV (eOp2 dEq (eVar 0) (eC (.int 2)))) (xMeth G_Hall_widen 1 (yDat (eVar 2) (yDat (eVar 3) yNil))) (xMeth G_Hall_back 1 yNil))))) whT)
def F__law_ask : List Sl → Option (D × List Sl) := runO [1] 4 5 B__law_ask
theorem w__law_ask (T : Txt K mg) (ff : Addr) {fW : Addr} {fdW : FuncData} (OW : ∀ z d, whT z = some d → ∃ C, cmOf mg z = .ref C ∧ FnW P w K mg base 1 fW fdW "e" C d) (gW : mg "_law_which" = some (.ref fW)) (kW : PySem.W.keepIn K (.ref fW) = true) (bW : Binds K fdW ["e"] []) {fX_Hall_back : Addr} {fdX_Hall_back : FuncData} (MX_Hall_back : Meth K (hA K) "back" fX_Hall_back) (OX_Hall_back : FnOk P w K mg base (L2.CX P w) 1 fX_Hall_back fdX_Hall_back ["self"] (spOX K (cmOf mg) G_Hall_back 1)) (bX_Hall_back : Binds K fdX_Hall_back ["self"] []) {fX_Hall_put : Addr} {fdX_Hall_put : FuncData} (MX_Hall_put : Meth K (hA K) "put" fX_Hall_put) (OX_Hall_put : FnOk P w K mg base (L2.CX P w) 12 fX_Hall_put fdX_Hall_put ["self", "room"] (spOX K (cmOf mg) G_Hall_put 2)) (bX_Hall_put : Binds K fdX_Hall_put ["self", "room"] []) {fX_Hall_take : Addr} {fdX_Hall_take : FuncData} (MX_Hall_take : Meth K (hA K) "take" fX_Hall_take) (OX_Hall_take : FnOk P w K mg base (L2.CX P w) 12 fX_Hall_take fdX_Hall_take ["self", "number"] (spOX K (cmOf mg) G_Hall_take 2)) (bX_Hall_take : Binds K fdX_Hall_take ["self", "number"] []) {fX_Hall_widen : Addr} {fdX_Hall_widen : FuncData} (MX_Hall_widen : Meth K (hA K) "widen" fX_Hall_widen) (OX_Hall_widen : FnOk P w K mg base (L2.CX P w) 12 fX_Hall_widen fdX_Hall_widen ["self", "number", "proportion"] (spOX K (cmOf mg) G_Hall_widen 3)) (bX_Hall_widen : Binds K fdX_Hall_widen ["self", "number", "proportion"] []) : ∃ W : List Nat, (∀ i ∈ ([1] : List Nat), i ∉ W) ∧ ∀ (cdv : Value) (A : Around) (outer : List Env) (s : Shared) (H : Hp) (E : XK), Room 14 (A.deeper (envOfC "_law_ask" (defScope s__law_ask) s.heap.objs.size ff cdv)) → QSs (cxOf CX0 P w K mg base ["what", "here", "one", "two", "e"] "_law_ask" (defScope s__law_ask) ff cdv A outer s H E).nox W (defBody s__law_ask) B__law_ask :=
  ⟨_, by decide, fun cdv A outer s H E hr => (qs_one (qs_tryW 4 OW (hr.mono (by decide)) gW kW bW sc__law_ask.nd ⟨rfl, by decide, .inl T.n_RoomError⟩ (whT_RoomError T) (fun _ _ _ tk => (xss_cons (xs_if (qt_cmp (op_eqD hr.units) d_eq (qe_var 0) qe_int) (xss_one (xs_ret (xe_meth 1 tk T.hal.cls MX_Hall_put OX_Hall_put (hr.mono (by decide)) bX_Hall_put (qy_dat (qe_var 2) qy_nil)))) (xss_lift qs_nil)) (xss_cons (xs_if (qt_cmp (op_eqD hr.units) d_eq (qe_var 0) qe_int) (xss_one (xs_ret (xe_meth 1 tk T.hal.cls MX_Hall_take OX_Hall_take (hr.mono (by decide)) bX_Hall_take (qy_dat (qe_var 2) qy_nil)))) (xss_lift qs_nil)) (xss_one (xs_ret (xe_if (qt_cmp (op_eqD hr.units) d_eq (qe_var 0) qe_int) (xe_meth 1 tk T.hal.cls MX_Hall_widen OX_Hall_widen (hr.mono (by decide)) bX_Hall_widen (qy_dat (qe_var 2) (qy_dat (qe_var 3) qy_nil))) (xe_meth0 1 tk T.hal.cls MX_Hall_back OX_Hall_back (hr.mono (by decide)) bX_Hall_back)))))))))⟩
theorem ok__law_ask (T : Txt K mg) (X__law_ask : Def K mg "_law_ask" "_law_ask" s__law_ask ["what", "here", "one", "two"]) (HW : HasW P w K mg base) (HX_Hall_back : HasMtX P w K mg base "back" 1 ["self"] (spOX K (cmOf mg) G_Hall_back 1)) (HX_Hall_put : HasMtX P w K mg base "put" 12 ["self", "room"] (spOX K (cmOf mg) G_Hall_put 2)) (HX_Hall_take : HasMtX P w K mg base "take" 12 ["self", "number"] (spOX K (cmOf mg) G_Hall_take 2)) (HX_Hall_widen : HasMtX P w K mg base "widen" 12 ["self", "number", "proportion"] (spOX K (cmOf mg) G_Hall_widen 3)) : Has P w K mg base "_law_ask" 15 ["what", "here", "one", "two"] (spO K F__law_ask 4) := by
  obtain ⟨fW, fdW, OW, gW, kW, bW⟩ := HW
  obtain ⟨fX_Hall_back, fdX_Hall_back, MX_Hall_back, OX_Hall_back, bX_Hall_back⟩ := HX_Hall_back
  obtain ⟨fX_Hall_put, fdX_Hall_put, MX_Hall_put, OX_Hall_put, bX_Hall_put⟩ := HX_Hall_put
  obtain ⟨fX_Hall_take, fdX_Hall_take, MX_Hall_take, OX_Hall_take, bX_Hall_take⟩ := HX_Hall_take
  obtain ⟨fX_Hall_widen, fdX_Hall_widen, MX_Hall_widen, OX_Hall_widen, bX_Hall_widen⟩ := HX_Hall_widen
  obtain ⟨ff, fd, FF, gg, bb⟩ := X__law_ask
  obtain ⟨W, hW, hw⟩ := w__law_ask T ff OW gW kW bW MX_Hall_back OX_Hall_back bX_Hall_back MX_Hall_put OX_Hall_put bX_Hall_put MX_Hall_take OX_Hall_take bX_Hall_take MX_Hall_widen OX_Hall_widen bX_Hall_widen
  have o : FnOk P w K mg base CX0 15 ff fd ["what", "here", "one", "two"] (spO K (runO [1] 4 5 B__law_ask) 4) := fnO (k := 14) FF sc__law_ask hw [1] hW
  exact ⟨ff, fd, o, gg, FF.kp, bb⟩
abbrev s_law : Stmt := topS 55
theorem sc_law : FnScope ["script", "town", "plan", "here", "off", "told", "other", "turned", "again"] ["script"] (defScope s_law) := ⟨rfl, rfl, rfl, by decide +kernel, rfl, by decide +kernel, by decide +kernel⟩
def B_law : MS := (sSeq (sAsg (eApp mkLst aNil) (gSet 1)) (sSeq (sAsg (eApp mkTup (aCons (eC (.int 3)) (aCons (eApp mkTup (aCons (eApp mkTup (aCons (eC (.int 0)) (aCons (eC (.int 1)) (aCons (eApp mkTup (aCons (eC (.int 1)) (aCons (eC (.int 1)) aNil))) aNil)))) (aCons (eApp mkTup (aCons (eC (.int 1)) (aCons (eC (.int 2)) (aCons (eApp mkTup (aCons (eC (.int 1)) (aCons (eC (.int 1)) aNil))) aNil)))) aNil))) aNil))) (gSet 2)) (sSeq (sOwn 3 (oHall F_need_plan (eVar 2))) (sSeq (sIf (cOr (cV (eOp2 dNe (eAppO F__law_ask (yDat (eC (.int 3)) (yVar 3 (yDat (eC .none) (yDat (eC .none) yNil))))) (eApp mkTup (aCons (eC (.str "refused")) (aCons (eC (.int 9)) aNil))))) (cOr (cV (eOp2 dNe (eStrH F_Hall_str 3) (eC (.str "1/2")))) (cV (eOp2 dNe (eMeth F_Hall_proportion 3 yNil) (eApp mkTup (aCons (eC (.int 1)) (aCons (eC (.int 2)) aNil))))))) (sRet (eC (.bool false))) sNil) (sSeq (sFor (iSeq (eApp mkLst (aCons (eC .none) (aCons (eApp mkTup (aCons (eC (.int 0)) (aCons (eC (.int 1)) aNil))) (aCons (eApp mkLst (aCons (eC (.int 0)) (aCons (eC (.int 1)) (aCons (eApp mkTup (aCons (eC (.int 1)) (aCons (eC (.int 1)) aNil))) aNil)))) (aCons (eApp mkTup (aCons (eC (.int 0)) (aCons (eC (.int 0)) (aCons (eApp mkTup (aCons (eC (.int 1)) (aCons (eC (.int 1)) aNil))) aNil)))) (aCons (eApp mkTup (aCons (eC (.int 0)) (aCons (eC (.int 3)) (aCons (eApp mkTup (aCons (eC (.int 1)) (aCons (eC (.int 1)) aNil))) aNil)))) (aCons (eApp mkTup (aCons (eC (.int 0)) (aCons (eC (.int 1)) (aCons (eApp mkTup (aCons (eC (.int 0)) (aCons (eC (.int 1)) aNil))) aNil)))) (aCons (eApp mkTup (aCons (eC (.int 0)) (aCons (eC (.int 1)) (aCons (eApp mkTup (aCons (eC (.int 2)) (aCons (eC (.int 2)) aNil))) aNil)))) aNil))))))))) (gSet 4) (sIf (cV (eOp2 dNe (eAppO F__law_ask (yDat (eC (.int 0)) (yVar 3 (yDat (eVar 4) (yDat (eC .none) yNil))))) (eApp mkTup (aCons (eC (.str "refused")) (aCons (eC (.int 4)) aNil))))) (sRet (eC (.bool false))) sNil)) (sSeq (sFor (iSeq (eApp mkLst (aCons (eC .none) (aCons (eNeg (eC (.int 1))) (aCons (eC (.int 2)) (aCons (eC (.str "0")) (aCons (eC (.bool true)) aNil))))))) (gSet 4) (sIf (cOr (cV (eOp2 dNe (eAppO F__law_ask (yDat (eC (.int 1)) (yVar 3 (yDat (eVar 4) (yDat (eC .none) yNil))))) (eApp mkTup (aCons (eC (.str "refused")) (aCons (eC (.int 4)) aNil))))) (cV (eOp2 dNe (eAppO F__law_ask (yDat (eC (.int 2)) (yVar 3 (yDat (eVar 4) (yDat (eC .none) yNil))))) (eApp mkTup (aCons (eC (.str "refused")) (aCons (eC (.int 4)) aNil)))))) (sRet (eC (.bool false))) sNil)) (sSeq (sFor (iSeq (eApp mkLst (aCons (eC .none) (aCons (eApp mkTup (aCons (eC (.int 0)) (aCons (eC (.int 1)) aNil))) (aCons (eApp mkTup (aCons (eNeg (eC (.int 1))) (aCons (eC (.int 1)) aNil))) (aCons (eApp mkTup (aCons (eC (.int 2)) (aCons (eC (.int 2)) aNil))) (aCons (eC (.int 1)) aNil))))))) (gSet 4) (sIf (cV (eOp2 dNe (eAppO F__law_ask (yDat (eC (.int 2)) (yVar 3 (yDat (eC (.int 0)) (yDat (eVar 4) yNil))))) (eApp mkTup (aCons (eC (.str "refused")) (aCons (eC (.int 5)) aNil))))) (sRet (eC (.bool false))) sNil)) (sSeq (sIf (cOr (cV (eOp2 dNe (eAppO F__law_ask (yDat (eC (.int 1)) (yVar 3 (yDat (eC (.int 0)) (yDat (eC .none) yNil))))) (eApp mkTup (aCons (eC (.str "refused")) (aCons (eC (.int 6)) aNil))))) (cOr (cV (eOp2 dNe (eMeth F_Hall_plan 3 yNil) (eVar 2))) (cV (eOp2 dNe (eLenH F_Hall_len 3) (eC (.int 2)))))) (sRet (eC (.bool false))) sNil) (sSeq (sAsg (eApp mkLst (aCons (eMeth F_Hall_put 3 (yDat (eApp mkTup (aCons (eC (.int 2)) (aCons (eC (.int 0)) (aCons (eApp mkTup (aCons (eC (.int 1)) (aCons (eC (.int 2)) aNil))) aNil)))) yNil)) (aCons (eStrH F_Hall_str 3) (aCons (eMeth F_Hall_take 3 (yDat (eC (.int 1)) yNil)) (aCons (eOp2 dIx (eOp2 dIx (eMeth F_Hall_plan 3 yNil) (eC (.int 1))) (eC (.int 1))) aNil))))) (gSet 5)) (sSeq (sIf (cV (eOp2 dNe (eVar 5) (eApp mkLst (aCons (eApp mkTup (aCons (eC (.int 1)) (aCons (eC (.int 1)) aNil))) (aCons (eC (.str "1")) (aCons (eApp mkTup (aCons (eC (.int 1)) (aCons (eC (.int 2)) aNil))) (aCons (eApp mkTup (aCons (eC (.int 2)) (aCons (eC (.int 0)) (aCons (eApp mkTup (aCons (eC (.int 1)) (aCons (eC (.int 2)) aNil))) aNil)))) aNil))))))) (sRet (eC (.bool false))) sNil) (sSeq (sOwn 6 (oHall F_need_plan (eApp mkTup (aCons (eC (.int 3)) (aCons (eApp mkTup (aCons (eApp mkTup (aCons (eC (.int 0)) (aCons (eC (.int 1)) (aCons (eApp mkTup (aCons (eC (.int 1)) (aCons (eC (.int 1)) aNil))) aNil)))) (aCons (eApp mkTup (aCons (eC (.int 2)) (aCons (eC (.int 0)) (aCons (eApp mkTup (aCons (eC (.int 1)) (aCons (eC (.int 2)) aNil))) aNil)))) aNil))) aNil))))) (sSeq (sIf (cOr (cNot (cV (eApp F__law_same_truth (aCons (eEqHV F_Hall_eq 3 6) (aCons (eC (.bool true)) aNil))))) (cNot (cV (eApp F__law_same_truth (aCons (eEqHO F_Hall_eq 3 (oHall F_need_plan (eVar 2))) (aCons (eC (.bool false)) aNil)))))) (sRet (eC (.bool false))) sNil) (sSeq (sOwn 7 (oHall F_need_plan (eApp mkTup (aCons (eC (.int 3)) (aCons (eApp mkTup (aCons (eApp mkTup (aCons (eC (.int 0)) (aCons (eC (.int 1)) (aCons (eApp mkTup (aCons (eC (.int 1)) (aCons (eC (.int 1)) aNil))) aNil)))) (aCons (eApp mkTup (aCons (eC (.int 0)) (aCons (eC (.int 2)) (aCons (eApp mkTup (aCons (eC (.int 1)) (aCons (eC (.int 2)) aNil))) aNil)))) aNil))) aNil))))) (sSeq (sIf (cOr (cNot (cV (eApp F__law_same_truth (aCons (eEqHV F_Hall_eq 3 7) (aCons (eC (.bool false)) aNil))))) (cNot (cV (eApp F__law_same_truth (aCons (eEqHS F_Hall_eq 3 (eC (.str "1/2"))) (aCons (eC (.bool false)) aNil)))))) (sRet (eC (.bool false))) sNil) (sSeq (sIf (cOr (cV (eOp2 dNe (eMeth F_Hall_widen 3 (yDat (eC (.int 1)) (yDat (eApp mkTup (aCons (eC (.int 3)) (aCons (eC (.int 1)) aNil))) yNil))) (eApp mkTup (aCons (eC (.int 3)) (aCons (eC (.int 1)) aNil))))) (cNot (cV (eApp F__law_same_truth (aCons (eEqHV F_Hall_eq 3 6) (aCons (eC (.bool false)) aNil)))))) (sRet (eC (.bool false))) sNil) (sSeq (sAsg (eLc [8] (iApp rng1 (aCons (eC (.int 4)) aNil)) (gSet 8) cTrue (eAppO F__law_ask (yDat (eC (.int 3)) (yVar 3 (yDat (eC .none) (yDat (eC .none) yNil)))))) (gSet 5)) (sRet (eAnd (eOp2 dEq (eVar 5) (eApp mkLst (aCons (eC (.str "widen")) (aCons (eC (.str "take")) (aCons (eC (.str "put")) (aCons (eApp mkTup (aCons (eC (.str "refused")) (aCons (eC (.int 9)) aNil))) aNil)))))) (eOp2 dEq (eMeth F_Hall_plan 3 yNil) (eVar 2))))))))))))))))))))
def F_law : List Sl → Option (D × List Sl) := runO [] 1 9 B_law
theorem w_law (T : Txt K mg) (ff : Addr) {f__law_ask : Addr} {fd__law_ask : FuncData} (O__law_ask : FnOk P w K mg base CX0 15 f__law_ask fd__law_ask ["what", "here", "one", "two"] (spO K F__law_ask 4)) (g__law_ask : mg "_law_ask" = some (.ref f__law_ask)) (k__law_ask : PySem.W.keepIn K (.ref f__law_ask) = true) (b__law_ask : Binds K fd__law_ask ["what", "here", "one", "two"] []) {f__law_same_truth : Addr} {fd__law_same_truth : FuncData} (O__law_same_truth : FnOk P w K mg base CX0 1 f__law_same_truth fd__law_same_truth ["got", "due"] (spP K F__law_same_truth 2)) (g__law_same_truth : mg "_law_same_truth" = some (.ref f__law_same_truth)) (k__law_same_truth : PySem.W.keepIn K (.ref f__law_same_truth) = true) (b__law_same_truth : Binds K fd__law_same_truth ["got", "due"] []) {f_Hall_eq : Addr} {fd_Hall_eq : FuncData} (M_Hall_eq : Meth K (hA K) "__eq__" f_Hall_eq) (O_Hall_eq : FnOk P w K mg base CX0 1 f_Hall_eq fd_Hall_eq ["self", "other"] (spO K F_Hall_eq 2)) (b_Hall_eq : Binds K fd_Hall_eq ["self", "other"] []) {f_Hall_init : Addr} {fd_Hall_init : FuncData} (M_Hall_init : Mk K (hA K) f_Hall_init) (O_Hall_init : FnOk P w K mg base CX0 7 f_Hall_init fd_Hall_init ["self", "plan"] (spNew K (hA K) F_need_plan)) (b_Hall_init : Binds K fd_Hall_init ["self", "plan"] []) {f_Hall_len : Addr} {fd_Hall_len : FuncData} (M_Hall_len : Meth K (hA K) "__len__" f_Hall_len) (O_Hall_len : FnOk P w K mg base CX0 1 f_Hall_len fd_Hall_len ["self"] (spO K F_Hall_len 1)) (b_Hall_len : Binds K fd_Hall_len ["self"] []) {f_Hall_plan : Addr} {fd_Hall_plan : FuncData} (M_Hall_plan : Meth K (hA K) "plan" f_Hall_plan) (O_Hall_plan : FnOk P w K mg base CX0 1 f_Hall_plan fd_Hall_plan ["self"] (spO K F_Hall_plan 1)) (b_Hall_plan : Binds K fd_Hall_plan ["self"] []) {f_Hall_proportion : Addr} {fd_Hall_proportion : FuncData} (M_Hall_proportion : Meth K (hA K) "proportion" f_Hall_proportion) (O_Hall_proportion : FnOk P w K mg base CX0 9 f_Hall_proportion fd_Hall_proportion ["self"] (spO K F_Hall_proportion 1)) (b_Hall_proportion : Binds K fd_Hall_proportion ["self"] []) {f_Hall_put : Addr} {fd_Hall_put : FuncData} (M_Hall_put : Meth K (hA K) "put" f_Hall_put) (O_Hall_put : FnOk P w K mg base CX0 12 f_Hall_put fd_Hall_put ["self", "room"] (spO K F_Hall_put 2)) (b_Hall_put : Binds K fd_Hall_put ["self", "room"] []) {f_Hall_str : Addr} {fd_Hall_str : FuncData} (M_Hall_str : Meth K (hA K) "__str__" f_Hall_str) (O_Hall_str : FnOk P w K mg base CX0 9 f_Hall_str fd_Hall_str ["self"] (spO K F_Hall_str 1)) (b_Hall_str : Binds K fd_Hall_str ["self"] []) {f_Hall_take : Addr} {fd_Hall_take : FuncData} (M_Hall_take : Meth K (hA K) "take" f_Hall_take) (O_Hall_take : FnOk P w K mg base CX0 12 f_Hall_take fd_Hall_take ["self", "number"] (spO K F_Hall_take 2)) (b_Hall_take : Binds K fd_Hall_take ["self", "number"] []) {f_Hall_widen : Addr} {fd_Hall_widen : FuncData} (M_Hall_widen : Meth K (hA K) "widen" f_Hall_widen) (O_Hall_widen : FnOk P w K mg base CX0 12 f_Hall_widen fd_Hall_widen ["self", "number", "proportion"] (spO K F_Hall_widen 3)) (b_Hall_widen : Binds K fd_Hall_widen ["self", "number", "proportion"] []) : ∃ W : List Nat, (∀ i ∈ ([] : List Nat), i ∉ W) ∧ ∀ (cdv : Value) (A : Around) (outer : List Env) (s : Shared) (H : Hp) (E : XK), Room 15 (A.deeper (envOfC "law" (defScope s_law) s.heap.objs.size ff cdv)) → QSs (cxOf CX0 P w K mg base ["script", "town", "plan", "here", "off", "told", "other", "turned", "again"] "law" (defScope s_law) ff cdv A outer s H E).nox W (defBody s_law) B_law :=
  ⟨_, by decide, fun cdv A outer s H E hr => (qs_cons (qs_set 1 sc_law.nd (qe_lst qa_nil)) (qs_cons (qs_set 2 sc_law.nd (qe_tup (qa_cons qe_int (qa_cons (qe_tup (qa_cons (qe_tup (qa_cons qe_int (qa_cons qe_int (qa_cons (qe_tup (qa_cons qe_int (qa_cons qe_int qa_nil))) qa_nil)))) (qa_cons (qe_tup (qa_cons qe_int (qa_cons qe_int (qa_cons (qe_tup (qa_cons qe_int (qa_cons qe_int qa_nil))) qa_nil)))) qa_nil))) qa_nil)))) (qs_cons (qs_own 3 sc_law.nd (qo_hall T.hal.cls M_Hall_init O_Hall_init (hr.mono (by decide)) T.hal.mg b_Hall_init (qe_var 2))) (qs_cons (qs_if (qw_pt (qw_or (qt_cmp (op_neD hr.units) d_ne (qe_callO O__law_ask (hr.mono (by decide)) g__law_ask k__law_ask b__law_ask (qy_dat qe_int (qy_var 3 (qy_dat qe_non (qy_dat qe_non qy_nil)))) (hF := runO_ok)) (qe_tup (qa_cons qe_str (qa_cons qe_int qa_nil)))) (qw_or (qt_cmp (op_neD hr.units) d_ne (qe_strH 3 T.hal.cls M_Hall_str O_Hall_str (hr.mono (by decide)) b_Hall_str T.b_str) qe_str) (qw_or1 (qt_cmp (op_neD hr.units) d_ne (qe_meth0 3 T.hal.cls M_Hall_proportion O_Hall_proportion (hr.mono (by decide)) b_Hall_proportion) (qe_tup (qa_cons qe_int (qa_cons qe_int qa_nil)))))))) (qs_one (qs_ret qe_bl)) qs_nil) (qs_cons (qs_for (qi_seq (qe_lst (qa_cons qe_non (qa_cons (qe_tup (qa_cons qe_int (qa_cons qe_int qa_nil))) (qa_cons (qe_lst (qa_cons qe_int (qa_cons qe_int (qa_cons (qe_tup (qa_cons qe_int (qa_cons qe_int qa_nil))) qa_nil)))) (qa_cons (qe_tup (qa_cons qe_int (qa_cons qe_int (qa_cons (qe_tup (qa_cons qe_int (qa_cons qe_int qa_nil))) qa_nil)))) (qa_cons (qe_tup (qa_cons qe_int (qa_cons qe_int (qa_cons (qe_tup (qa_cons qe_int (qa_cons qe_int qa_nil))) qa_nil)))) (qa_cons (qe_tup (qa_cons qe_int (qa_cons qe_int (qa_cons (qe_tup (qa_cons qe_int (qa_cons qe_int qa_nil))) qa_nil)))) (qa_cons (qe_tup (qa_cons qe_int (qa_cons qe_int (qa_cons (qe_tup (qa_cons qe_int (qa_cons qe_int qa_nil))) qa_nil)))) qa_nil))))))))) (qg_name 4 sc_law.nd) (qs_one (qs_if (qt_cmp (op_neD hr.units) d_ne (qe_callO O__law_ask (hr.mono (by decide)) g__law_ask k__law_ask b__law_ask (qy_dat qe_int (qy_var 3 (qy_dat (qe_var 4) (qy_dat qe_non qy_nil)))) (hF := runO_ok)) (qe_tup (qa_cons qe_str (qa_cons qe_int qa_nil)))) (qs_one (qs_ret qe_bl)) qs_nil))) (qs_cons (qs_for (qi_seq (qe_lst (qa_cons qe_non (qa_cons (qe_neg qe_int) (qa_cons qe_int (qa_cons qe_str (qa_cons qe_bl qa_nil))))))) (qg_name 4 sc_law.nd) (qs_one (qs_if (qw_pt (qw_or (qt_cmp (op_neD hr.units) d_ne (qe_callO O__law_ask (hr.mono (by decide)) g__law_ask k__law_ask b__law_ask (qy_dat qe_int (qy_var 3 (qy_dat (qe_var 4) (qy_dat qe_non qy_nil)))) (hF := runO_ok)) (qe_tup (qa_cons qe_str (qa_cons qe_int qa_nil)))) (qw_or1 (qt_cmp (op_neD hr.units) d_ne (qe_callO O__law_ask (hr.mono (by decide)) g__law_ask k__law_ask b__law_ask (qy_dat qe_int (qy_var 3 (qy_dat (qe_var 4) (qy_dat qe_non qy_nil)))) (hF := runO_ok)) (qe_tup (qa_cons qe_str (qa_cons qe_int qa_nil))))))) (qs_one (qs_ret qe_bl)) qs_nil))) (qs_cons (qs_for (qi_seq (qe_lst (qa_cons qe_non (qa_cons (qe_tup (qa_cons qe_int (qa_cons qe_int qa_nil))) (qa_cons (qe_tup (qa_cons (qe_neg qe_int) (qa_cons qe_int qa_nil))) (qa_cons (qe_tup (qa_cons qe_int (qa_cons qe_int qa_nil))) (qa_cons qe_int qa_nil))))))) (qg_name 4 sc_law.nd) (qs_one (qs_if (qt_cmp (op_neD hr.units) d_ne (qe_callO O__law_ask (hr.mono (by decide)) g__law_ask k__law_ask b__law_ask (qy_dat qe_int (qy_var 3 (qy_dat qe_int (qy_dat (qe_var 4) qy_nil)))) (hF := runO_ok)) (qe_tup (qa_cons qe_str (qa_cons qe_int qa_nil)))) (qs_one (qs_ret qe_bl)) qs_nil))) (qs_cons (qs_if (qw_pt (qw_or (qt_cmp (op_neD hr.units) d_ne (qe_callO O__law_ask (hr.mono (by decide)) g__law_ask k__law_ask b__law_ask (qy_dat qe_int (qy_var 3 (qy_dat qe_int (qy_dat qe_non qy_nil)))) (hF := runO_ok)) (qe_tup (qa_cons qe_str (qa_cons qe_int qa_nil)))) (qw_or (qt_cmp (op_neD hr.units) d_ne (qe_meth0 3 T.hal.cls M_Hall_plan O_Hall_plan (hr.mono (by decide)) b_Hall_plan) (qe_var 2)) (qw_or1 (qt_cmp (op_neD hr.units) d_ne (qe_lenH 3 T.hal.cls M_Hall_len O_Hall_len (hr.mono (by decide)) b_Hall_len T.b_len) qe_int))))) (qs_one (qs_ret qe_bl)) qs_nil) (qs_cons (qs_set 5 sc_law.nd (qe_lst (qa_cons (qe_meth 3 T.hal.cls M_Hall_put O_Hall_put (hr.mono (by decide)) b_Hall_put (qy_dat (qe_tup (qa_cons qe_int (qa_cons qe_int (qa_cons (qe_tup (qa_cons qe_int (qa_cons qe_int qa_nil))) qa_nil)))) qy_nil)) (qa_cons (qe_strH 3 T.hal.cls M_Hall_str O_Hall_str (hr.mono (by decide)) b_Hall_str T.b_str) (qa_cons (qe_meth 3 T.hal.cls M_Hall_take O_Hall_take (hr.mono (by decide)) b_Hall_take (qy_dat qe_int qy_nil)) (qa_cons (qe_ix (qe_ix (qe_meth0 3 T.hal.cls M_Hall_plan O_Hall_plan (hr.mono (by decide)) b_Hall_plan) qe_int) qe_int) qa_nil)))))) (qs_cons (qs_if (qt_cmp (op_neD hr.units) d_ne (qe_var 5) (qe_lst (qa_cons (qe_tup (qa_cons qe_int (qa_cons qe_int qa_nil))) (qa_cons qe_str (qa_cons (qe_tup (qa_cons qe_int (qa_cons qe_int qa_nil))) (qa_cons (qe_tup (qa_cons qe_int (qa_cons qe_int (qa_cons (qe_tup (qa_cons qe_int (qa_cons qe_int qa_nil))) qa_nil)))) qa_nil)))))) (qs_one (qs_ret qe_bl)) qs_nil) (qs_cons (qs_own 6 sc_law.nd (qo_hall T.hal.cls M_Hall_init O_Hall_init (hr.mono (by decide)) T.hal.mg b_Hall_init (qe_tup (qa_cons qe_int (qa_cons (qe_tup (qa_cons (qe_tup (qa_cons qe_int (qa_cons qe_int (qa_cons (qe_tup (qa_cons qe_int (qa_cons qe_int qa_nil))) qa_nil)))) (qa_cons (qe_tup (qa_cons qe_int (qa_cons qe_int (qa_cons (qe_tup (qa_cons qe_int (qa_cons qe_int qa_nil))) qa_nil)))) qa_nil))) qa_nil))))) (qs_cons (qs_if (qw_pt (qw_or (qt_not (qt_val (qe_call O__law_same_truth (hr.mono (by decide)) g__law_same_truth k__law_same_truth b__law_same_truth (qa_cons (qe_eqHV 3 6 T.hal.cls M_Hall_eq T.hal.sub O_Hall_eq (hr.mono (by decide)) b_Hall_eq) (qa_cons qe_bl qa_nil))))) (qw_or1 (qt_not (qt_val (qe_call O__law_same_truth (hr.mono (by decide)) g__law_same_truth k__law_same_truth b__law_same_truth (qa_cons (qe_eqHO 3 T.hal.cls M_Hall_eq T.hal.sub O_Hall_eq (hr.mono (by decide)) b_Hall_eq (qo_hall T.hal.cls M_Hall_init O_Hall_init (hr.mono (by decide)) T.hal.mg b_Hall_init (qe_var 2))) (qa_cons qe_bl qa_nil)))))))) (qs_one (qs_ret qe_bl)) qs_nil) (qs_cons (qs_own 7 sc_law.nd (qo_hall T.hal.cls M_Hall_init O_Hall_init (hr.mono (by decide)) T.hal.mg b_Hall_init (qe_tup (qa_cons qe_int (qa_cons (qe_tup (qa_cons (qe_tup (qa_cons qe_int (qa_cons qe_int (qa_cons (qe_tup (qa_cons qe_int (qa_cons qe_int qa_nil))) qa_nil)))) (qa_cons (qe_tup (qa_cons qe_int (qa_cons qe_int (qa_cons (qe_tup (qa_cons qe_int (qa_cons qe_int qa_nil))) qa_nil)))) qa_nil))) qa_nil))))) (qs_cons (qs_if (qw_pt (qw_or (qt_not (qt_val (qe_call O__law_same_truth (hr.mono (by decide)) g__law_same_truth k__law_same_truth b__law_same_truth (qa_cons (qe_eqHV 3 7 T.hal.cls M_Hall_eq T.hal.sub O_Hall_eq (hr.mono (by decide)) b_Hall_eq) (qa_cons qe_bl qa_nil))))) (qw_or1 (qt_not (qt_val (qe_call O__law_same_truth (hr.mono (by decide)) g__law_same_truth k__law_same_truth b__law_same_truth (qa_cons (qe_eqHS 3 T.hal.cls M_Hall_eq T.hal.sub O_Hall_eq (hr.mono (by decide)) b_Hall_eq qe_str) (qa_cons qe_bl qa_nil)))))))) (qs_one (qs_ret qe_bl)) qs_nil) (qs_cons (qs_if (qw_pt (qw_or (qt_cmp (op_neD hr.units) d_ne (qe_meth 3 T.hal.cls M_Hall_widen O_Hall_widen (hr.mono (by decide)) b_Hall_widen (qy_dat qe_int (qy_dat (qe_tup (qa_cons qe_int (qa_cons qe_int qa_nil))) qy_nil))) (qe_tup (qa_cons qe_int (qa_cons qe_int qa_nil)))) (qw_or1 (qt_not (qt_val (qe_call O__law_same_truth (hr.mono (by decide)) g__law_same_truth k__law_same_truth b__law_same_truth (qa_cons (qe_eqHV 3 6 T.hal.cls M_Hall_eq T.hal.sub O_Hall_eq (hr.mono (by decide)) b_Hall_eq) (qa_cons qe_bl qa_nil)))))))) (qs_one (qs_ret qe_bl)) qs_nil) (qs_cons (qs_setLc 5 [("again", 8)] sc_law.nd (qi_range1 T.b_range (qa_cons qe_int qa_nil)) (blkOk_by (N := ["script", "town", "plan", "here", "off", "told", "other", "turned", "again"]) (sc := (defScope s_law)) (by decide +kernel)) (fun _ _ _ _ _ => (qg_name 8 sc_law.nd)) (fun _ _ _ _ _ => qts_nil) (fun _ _ _ _ _ => (qe_callO O__law_ask (hr.mono (by decide)) g__law_ask k__law_ask b__law_ask (qy_dat qe_int (qy_var 3 (qy_dat qe_non (qy_dat qe_non qy_nil)))) (hF := runO_ok)))) (qs_one (qs_ret (qe_and (qe_cmp (op_eqD hr.units) d_eq (qe_var 5) (qe_lst (qa_cons qe_str (qa_cons qe_str (qa_cons qe_str (qa_cons (qe_tup (qa_cons qe_str (qa_cons qe_int qa_nil))) qa_nil)))))) (qe_one (qe_cmp (op_eqD hr.units) d_eq (qe_meth0 3 T.hal.cls M_Hall_plan O_Hall_plan (hr.mono (by decide)) b_Hall_plan) (qe_var 2))))))))))))))))))))))⟩
theorem ok_law (T : Txt K mg) {ff : Addr} {fd : FuncData} (FF : Fun K "law" "law" s_law ff fd) (H__law_ask : Has P w K mg base "_law_ask" 15 ["what", "here", "one", "two"] (spO K F__law_ask 4)) (H__law_same_truth : Has P w K mg base "_law_same_truth" 1 ["got", "due"] (spP K F__law_same_truth 2)) (H_Hall_eq : HasMt P w K mg base "__eq__" 1 ["self", "other"] (spO K F_Hall_eq 2)) (H_Hall_init : HasNew P w K mg base "__init__" 7 ["self", "plan"] (spNew K (hA K) F_need_plan)) (H_Hall_len : HasMt P w K mg base "__len__" 1 ["self"] (spO K F_Hall_len 1)) (H_Hall_plan : HasMt P w K mg base "plan" 1 ["self"] (spO K F_Hall_plan 1)) (H_Hall_proportion : HasMt P w K mg base "proportion" 9 ["self"] (spO K F_Hall_proportion 1)) (H_Hall_put : HasMt P w K mg base "put" 12 ["self", "room"] (spO K F_Hall_put 2)) (H_Hall_str : HasMt P w K mg base "__str__" 9 ["self"] (spO K F_Hall_str 1)) (H_Hall_take : HasMt P w K mg base "take" 12 ["self", "number"] (spO K F_Hall_take 2)) (H_Hall_widen : HasMt P w K mg base "widen" 12 ["self", "number", "proportion"] (spO K F_Hall_widen 3)) : FnOk P w K mg base CX0 16 ff fd ["script"] (spO K F_law 1) := by
  obtain ⟨f__law_ask, fd__law_ask, O__law_ask, g__law_ask, k__law_ask, b__law_ask⟩ := H__law_ask
  obtain ⟨f__law_same_truth, fd__law_same_truth, O__law_same_truth, g__law_same_truth, k__law_same_truth, b__law_same_truth⟩ := H__law_same_truth
  obtain ⟨f_Hall_eq, fd_Hall_eq, M_Hall_eq, O_Hall_eq, b_Hall_eq⟩ := H_Hall_eq
  obtain ⟨f_Hall_init, fd_Hall_init, M_Hall_init, O_Hall_init, b_Hall_init⟩ := H_Hall_init
  obtain ⟨f_Hall_len, fd_Hall_len, M_Hall_len, O_Hall_len, b_Hall_len⟩ := H_Hall_len
  obtain ⟨f_Hall_plan, fd_Hall_plan, M_Hall_plan, O_Hall_plan, b_Hall_plan⟩ := H_Hall_plan
  obtain ⟨f_Hall_proportion, fd_Hall_proportion, M_Hall_proportion, O_Hall_proportion, b_Hall_proportion⟩ := H_Hall_proportion
  obtain ⟨f_Hall_put, fd_Hall_put, M_Hall_put, O_Hall_put, b_Hall_put⟩ := H_Hall_put
  obtain ⟨f_Hall_str, fd_Hall_str, M_Hall_str, O_Hall_str, b_Hall_str⟩ := H_Hall_str
  obtain ⟨f_Hall_take, fd_Hall_take, M_Hall_take, O_Hall_take, b_Hall_take⟩ := H_Hall_take
  obtain ⟨f_Hall_widen, fd_Hall_widen, M_Hall_widen, O_Hall_widen, b_Hall_widen⟩ := H_Hall_widen
  obtain ⟨W, hW, hw⟩ := w_law T ff O__law_ask g__law_ask k__law_ask b__law_ask O__law_same_truth g__law_same_truth k__law_same_truth b__law_same_truth M_Hall_eq O_Hall_eq b_Hall_eq M_Hall_init O_Hall_init b_Hall_init M_Hall_len O_Hall_len b_Hall_len M_Hall_plan O_Hall_plan b_Hall_plan M_Hall_proportion O_Hall_proportion b_Hall_proportion M_Hall_put O_Hall_put b_Hall_put M_Hall_str O_Hall_str b_Hall_str M_Hall_take O_Hall_take b_Hall_take M_Hall_widen O_Hall_widen b_Hall_widen
  have o : FnOk P w K mg base CX0 16 ff fd ["script"] (spO K (runO [] 1 9 B_law) 1) := fnO (k := 15) FF sc_law hw [] hW
  exact o
end
end QP
set_option Elab.async false
set_option linter.all false
set_option maxRecDepth 100000
set_option maxHeartbeats 1000000
namespace QP
open PySem PySem.Spec PyProof.Rows L2 QL
/-! ### ground parts, run by the kernel -/
theorem sSeq_assoc (a b c : MS) : sSeq a (sSeq b c) = sSeq (sSeq a b) c := by
  funext ρ
  unfold sSeq
  cases a ρ with
  | none => rfl
  | some p =>
    obtain ⟨f, ρ1⟩ := p
    cases f <;> rfl
theorem seq_run {a b : MS} {ρ ρ' : Ro} (h : a ρ = some (.nx, ρ')) : sSeq a b ρ = b ρ' := by unfold sSeq; rw [h]; rfl
def isTru : Option D → Bool
  | some (.bool b) => b
  | _ => false
theorem isTru_of {o : Option D} (h : isTru o = true) : o = some (.bool true) := by
  unfold isTru at h
  split at h
  · rw [h]
  · cases h
def eqRun (o : Option D) (d : D) : Bool := match o with
  | some p => isTru (dEq p d)
  | none => false
theorem eqRun_of {o : Option D} {d : D} (h : eqRun o d = true) : ∃ p, o = some p ∧ dEq p d = some (.bool true) := by
  unfold eqRun at h
  cases o with
  | none => cases h
  | some p => exact ⟨p, rfl, isTru_of h⟩
def tailOf (o : Option (Fl × Ro)) (n : Nat) : Ro := match o with
  | some (_, ρ) => ρ.drop n
  | none => []

end QP
set_option Elab.async false
set_option linter.all false
set_option maxRecDepth 100000
set_option maxHeartbeats 1000000
namespace QP
open PySem PySem.Spec PyProof.Rows L2 QL
def st1 : MS := (sAsg (eApp mkLst aNil) (gSet 1))
def st2 : MS := (sAsg (eApp mkTup (aCons (eC (.int 3)) (aCons (eApp mkTup (aCons (eApp mkTup (aCons (eC (.int 0)) (aCons (eC (.int 1)) (aCons (eApp mkTup (aCons (eC (.int 1)) (aCons (eC (.int 1)) aNil))) aNil)))) (aCons (eApp mkTup (aCons (eC (.int 1)) (aCons (eC (.int 2)) (aCons (eApp mkTup (aCons (eC (.int 1)) (aCons (eC (.int 1)) aNil))) aNil)))) aNil))) aNil))) (gSet 2))
def st3 : MS := (sOwn 3 (oHall F_need_plan (eVar 2)))
def st4 : MS := (sIf (cOr (cV (eOp2 dNe (eAppO F__law_ask (yDat (eC (.int 3)) (yVar 3 (yDat (eC .none) (yDat (eC .none) yNil))))) (eApp mkTup (aCons (eC (.str "refused")) (aCons (eC (.int 9)) aNil))))) (cOr (cV (eOp2 dNe (eStrH F_Hall_str 3) (eC (.str "1/2")))) (cV (eOp2 dNe (eMeth F_Hall_proportion 3 yNil) (eApp mkTup (aCons (eC (.int 1)) (aCons (eC (.int 2)) aNil))))))) (sRet (eC (.bool false))) sNil)
def st5 : MS := (sFor (iSeq (eApp mkLst (aCons (eC .none) (aCons (eApp mkTup (aCons (eC (.int 0)) (aCons (eC (.int 1)) aNil))) (aCons (eApp mkLst (aCons (eC (.int 0)) (aCons (eC (.int 1)) (aCons (eApp mkTup (aCons (eC (.int 1)) (aCons (eC (.int 1)) aNil))) aNil)))) (aCons (eApp mkTup (aCons (eC (.int 0)) (aCons (eC (.int 0)) (aCons (eApp mkTup (aCons (eC (.int 1)) (aCons (eC (.int 1)) aNil))) aNil)))) (aCons (eApp mkTup (aCons (eC (.int 0)) (aCons (eC (.int 3)) (aCons (eApp mkTup (aCons (eC (.int 1)) (aCons (eC (.int 1)) aNil))) aNil)))) (aCons (eApp mkTup (aCons (eC (.int 0)) (aCons (eC (.int 1)) (aCons (eApp mkTup (aCons (eC (.int 0)) (aCons (eC (.int 1)) aNil))) aNil)))) (aCons (eApp mkTup (aCons (eC (.int 0)) (aCons (eC (.int 1)) (aCons (eApp mkTup (aCons (eC (.int 2)) (aCons (eC (.int 2)) aNil))) aNil)))) aNil))))))))) (gSet 4) (sIf (cV (eOp2 dNe (eAppO F__law_ask (yDat (eC (.int 0)) (yVar 3 (yDat (eVar 4) (yDat (eC .none) yNil))))) (eApp mkTup (aCons (eC (.str "refused")) (aCons (eC (.int 4)) aNil))))) (sRet (eC (.bool false))) sNil))
def st6 : MS := (sFor (iSeq (eApp mkLst (aCons (eC .none) (aCons (eNeg (eC (.int 1))) (aCons (eC (.int 2)) (aCons (eC (.str "0")) (aCons (eC (.bool true)) aNil))))))) (gSet 4) (sIf (cOr (cV (eOp2 dNe (eAppO F__law_ask (yDat (eC (.int 1)) (yVar 3 (yDat (eVar 4) (yDat (eC .none) yNil))))) (eApp mkTup (aCons (eC (.str "refused")) (aCons (eC (.int 4)) aNil))))) (cV (eOp2 dNe (eAppO F__law_ask (yDat (eC (.int 2)) (yVar 3 (yDat (eVar 4) (yDat (eC .none) yNil))))) (eApp mkTup (aCons (eC (.str "refused")) (aCons (eC (.int 4)) aNil)))))) (sRet (eC (.bool false))) sNil))
def st7 : MS := (sFor (iSeq (eApp mkLst (aCons (eC .none) (aCons (eApp mkTup (aCons (eC (.int 0)) (aCons (eC (.int 1)) aNil))) (aCons (eApp mkTup (aCons (eNeg (eC (.int 1))) (aCons (eC (.int 1)) aNil))) (aCons (eApp mkTup (aCons (eC (.int 2)) (aCons (eC (.int 2)) aNil))) (aCons (eC (.int 1)) aNil))))))) (gSet 4) (sIf (cV (eOp2 dNe (eAppO F__law_ask (yDat (eC (.int 2)) (yVar 3 (yDat (eC (.int 0)) (yDat (eVar 4) yNil))))) (eApp mkTup (aCons (eC (.str "refused")) (aCons (eC (.int 5)) aNil))))) (sRet (eC (.bool false))) sNil))
def st8 : MS := (sIf (cOr (cV (eOp2 dNe (eAppO F__law_ask (yDat (eC (.int 1)) (yVar 3 (yDat (eC (.int 0)) (yDat (eC .none) yNil))))) (eApp mkTup (aCons (eC (.str "refused")) (aCons (eC (.int 6)) aNil))))) (cOr (cV (eOp2 dNe (eMeth F_Hall_plan 3 yNil) (eVar 2))) (cV (eOp2 dNe (eLenH F_Hall_len 3) (eC (.int 2)))))) (sRet (eC (.bool false))) sNil)
def st9 : MS := (sAsg (eApp mkLst (aCons (eMeth F_Hall_put 3 (yDat (eApp mkTup (aCons (eC (.int 2)) (aCons (eC (.int 0)) (aCons (eApp mkTup (aCons (eC (.int 1)) (aCons (eC (.int 2)) aNil))) aNil)))) yNil)) (aCons (eStrH F_Hall_str 3) (aCons (eMeth F_Hall_take 3 (yDat (eC (.int 1)) yNil)) (aCons (eOp2 dIx (eOp2 dIx (eMeth F_Hall_plan 3 yNil) (eC (.int 1))) (eC (.int 1))) aNil))))) (gSet 5))
def st10 : MS := (sIf (cV (eOp2 dNe (eVar 5) (eApp mkLst (aCons (eApp mkTup (aCons (eC (.int 1)) (aCons (eC (.int 1)) aNil))) (aCons (eC (.str "1")) (aCons (eApp mkTup (aCons (eC (.int 1)) (aCons (eC (.int 2)) aNil))) (aCons (eApp mkTup (aCons (eC (.int 2)) (aCons (eC (.int 0)) (aCons (eApp mkTup (aCons (eC (.int 1)) (aCons (eC (.int 2)) aNil))) aNil)))) aNil))))))) (sRet (eC (.bool false))) sNil)
def st11 : MS := (sOwn 6 (oHall F_need_plan (eApp mkTup (aCons (eC (.int 3)) (aCons (eApp mkTup (aCons (eApp mkTup (aCons (eC (.int 0)) (aCons (eC (.int 1)) (aCons (eApp mkTup (aCons (eC (.int 1)) (aCons (eC (.int 1)) aNil))) aNil)))) (aCons (eApp mkTup (aCons (eC (.int 2)) (aCons (eC (.int 0)) (aCons (eApp mkTup (aCons (eC (.int 1)) (aCons (eC (.int 2)) aNil))) aNil)))) aNil))) aNil)))))
def st12 : MS := (sIf (cOr (cNot (cV (eApp F__law_same_truth (aCons (eEqHV F_Hall_eq 3 6) (aCons (eC (.bool true)) aNil))))) (cNot (cV (eApp F__law_same_truth (aCons (eEqHO F_Hall_eq 3 (oHall F_need_plan (eVar 2))) (aCons (eC (.bool false)) aNil)))))) (sRet (eC (.bool false))) sNil)
def st13 : MS := (sOwn 7 (oHall F_need_plan (eApp mkTup (aCons (eC (.int 3)) (aCons (eApp mkTup (aCons (eApp mkTup (aCons (eC (.int 0)) (aCons (eC (.int 1)) (aCons (eApp mkTup (aCons (eC (.int 1)) (aCons (eC (.int 1)) aNil))) aNil)))) (aCons (eApp mkTup (aCons (eC (.int 0)) (aCons (eC (.int 2)) (aCons (eApp mkTup (aCons (eC (.int 1)) (aCons (eC (.int 2)) aNil))) aNil)))) aNil))) aNil)))))
def st14 : MS := (sIf (cOr (cNot (cV (eApp F__law_same_truth (aCons (eEqHV F_Hall_eq 3 7) (aCons (eC (.bool false)) aNil))))) (cNot (cV (eApp F__law_same_truth (aCons (eEqHS F_Hall_eq 3 (eC (.str "1/2"))) (aCons (eC (.bool false)) aNil)))))) (sRet (eC (.bool false))) sNil)
def st15 : MS := (sIf (cOr (cV (eOp2 dNe (eMeth F_Hall_widen 3 (yDat (eC (.int 1)) (yDat (eApp mkTup (aCons (eC (.int 3)) (aCons (eC (.int 1)) aNil))) yNil))) (eApp mkTup (aCons (eC (.int 3)) (aCons (eC (.int 1)) aNil))))) (cNot (cV (eApp F__law_same_truth (aCons (eEqHV F_Hall_eq 3 6) (aCons (eC (.bool false)) aNil)))))) (sRet (eC (.bool false))) sNil)
def st16 : MS := (sAsg (eLc [8] (iApp rng1 (aCons (eC (.int 4)) aNil)) (gSet 8) cTrue (eAppO F__law_ask (yDat (eC (.int 3)) (yVar 3 (yDat (eC .none) (yDat (eC .none) yNil)))))) (gSet 5))
def st17 : MS := (sRet (eAnd (eOp2 dEq (eVar 5) (eApp mkLst (aCons (eC (.str "widen")) (aCons (eC (.str "take")) (aCons (eC (.str "put")) (aCons (eApp mkTup (aCons (eC (.str "refused")) (aCons (eC (.int 9)) aNil))) aNil)))))) (eOp2 dEq (eMeth F_Hall_plan 3 yNil) (eVar 2))))
theorem lawB : B_law = (sSeq st1 (sSeq st2 (sSeq st3 (sSeq st4 (sSeq st5 (sSeq st6 (sSeq st7 (sSeq st8 (sSeq st9 (sSeq st10 (sSeq st11 (sSeq st12 (sSeq st13 (sSeq st14 (sSeq st15 (sSeq st16 st17)))))))))))))))) := rfl

def pI (a b : Int) : D := .tuple [.int a, .int b]
def rmV (a b : Int) (p : D) : D := .tuple [.int a, .int b, p]
def plA : D := .tuple [.int 3, .tuple [rmV 0 1 (pI 1 1), rmV 1 2 (pI 1 1)]]
def plB : D := .tuple [.int 3, .tuple [rmV 0 1 (pI 1 1), rmV 1 2 (pI 1 1), rmV 2 0 (pI 1 2)]]
def plC : D := .tuple [.int 3, .tuple [rmV 0 1 (pI 1 1), rmV 2 0 (pI 1 2)]]
def plD : D := .tuple [.int 3, .tuple [rmV 0 1 (pI 1 1), rmV 2 0 (pI 3 1)]]
def plE : D := .tuple [.int 3, .tuple [rmV 0 1 (pI 1 1), rmV 0 2 (pI 1 2)]]
def toldV : D := .list [pI 1 1, .str "1", pI 1 2, rmV 2 0 (pI 1 2)]
def h2 : Sl := .own (.hal plC [plA, plB] [.str "put", .str "take"])
def h3 : Sl := .own (.hal plD [plA, plB, plC] [.str "put", .str "take", .str "widen"])
def h0 : Sl := .own (.hal plA [] [])
abbrev rr0 (ns : List Int) (town plan here off told other turned again : Sl) : Ro := [.scr ns, town, plan, here, off, told, other, turned, again]
abbrev tw : Sl := .dat (.list [])
theorem s1 (ns : List Int) : st1 (rr0 ns .un .un .un .un .un .un .un .un) = some (.nx, rr0 ns tw .un .un .un .un .un .un .un) := by kernel_rfl
theorem s2 (ns : List Int) : st2 (rr0 ns tw .un .un .un .un .un .un .un) = some (.nx, rr0 ns tw (.dat plA) .un .un .un .un .un .un) := by kernel_rfl
theorem s3 (ns : List Int) : st3 (rr0 ns tw (.dat plA) .un .un .un .un .un .un) = some (.nx, rr0 ns tw (.dat plA) h0 .un .un .un .un .un) := by kernel_rfl
theorem s4 (ns : List Int) : st4 (rr0 ns tw (.dat plA) h0 .un .un .un .un .un) = some (.nx, rr0 ns tw (.dat plA) h0 .un .un .un .un .un) := by kernel_rfl
theorem s5 (ns : List Int) : st5 (rr0 ns tw (.dat plA) h0 .un .un .un .un .un) = some (.nx, rr0 ns tw (.dat plA) h0 (.dat (rmV 0 1 (pI 2 2))) .un .un .un .un) := by kernel_rfl
theorem s6 (ns : List Int) : st6 (rr0 ns tw (.dat plA) h0 (.dat (rmV 0 1 (pI 2 2))) .un .un .un .un) = some (.nx, rr0 ns tw (.dat plA) h0 (.dat (.bool true)) .un .un .un .un) := by kernel_rfl
theorem s7 (ns : List Int) : st7 (rr0 ns tw (.dat plA) h0 (.dat (.bool true)) .un .un .un .un) = some (.nx, rr0 ns tw (.dat plA) h0 (.dat (.int 1)) .un .un .un .un) := by kernel_rfl
theorem s8 (ns : List Int) : st8 (rr0 ns tw (.dat plA) h0 (.dat (.int 1)) .un .un .un .un) = some (.nx, rr0 ns tw (.dat plA) h0 (.dat (.int 1)) .un .un .un .un) := by kernel_rfl
theorem s9 (ns : List Int) : st9 (rr0 ns tw (.dat plA) h0 (.dat (.int 1)) .un .un .un .un) = some (.nx, rr0 ns tw (.dat plA) h2 (.dat (.int 1)) (.dat toldV) .un .un .un) := by kernel_rfl
theorem s10 (ns : List Int) : st10 (rr0 ns tw (.dat plA) h2 (.dat (.int 1)) (.dat toldV) .un .un .un) = some (.nx, rr0 ns tw (.dat plA) h2 (.dat (.int 1)) (.dat toldV) .un .un .un) := by kernel_rfl
theorem s11 (ns : List Int) : st11 (rr0 ns tw (.dat plA) h2 (.dat (.int 1)) (.dat toldV) .un .un .un) = some (.nx, rr0 ns tw (.dat plA) h2 (.dat (.int 1)) (.dat toldV) (.own (.hal plC [] [])) .un .un) := by kernel_rfl
theorem s12 (ns : List Int) : st12 (rr0 ns tw (.dat plA) h2 (.dat (.int 1)) (.dat toldV) (.own (.hal plC [] [])) .un .un) = some (.nx, rr0 ns tw (.dat plA) h2 (.dat (.int 1)) (.dat toldV) (.own (.hal plC [] [])) .un .un) := by kernel_rfl
theorem s13 (ns : List Int) : st13 (rr0 ns tw (.dat plA) h2 (.dat (.int 1)) (.dat toldV) (.own (.hal plC [] [])) .un .un) = some (.nx, rr0 ns tw (.dat plA) h2 (.dat (.int 1)) (.dat toldV) (.own (.hal plC [] [])) (.own (.hal plE [] [])) .un) := by kernel_rfl
theorem s14 (ns : List Int) : st14 (rr0 ns tw (.dat plA) h2 (.dat (.int 1)) (.dat toldV) (.own (.hal plC [] [])) (.own (.hal plE [] [])) .un) = some (.nx, rr0 ns tw (.dat plA) h2 (.dat (.int 1)) (.dat toldV) (.own (.hal plC [] [])) (.own (.hal plE [] [])) .un) := by kernel_rfl
theorem s15 (ns : List Int) : st15 (rr0 ns tw (.dat plA) h2 (.dat (.int 1)) (.dat toldV) (.own (.hal plC [] [])) (.own (.hal plE [] [])) .un) = some (.nx, rr0 ns tw (.dat plA) h3 (.dat (.int 1)) (.dat toldV) (.own (.hal plC [] [])) (.own (.hal plE [] [])) .un) := by kernel_rfl
def toldW : D := .list [.str "widen", .str "take", .str "put", .tuple [.str "refused", .int 9]]
theorem s16 (ns : List Int) : st16 (rr0 ns tw (.dat plA) h3 (.dat (.int 1)) (.dat toldV) (.own (.hal plC [] [])) (.own (.hal plE [] [])) .un) = some (.nx, rr0 ns tw (.dat plA) h0 (.dat (.int 1)) (.dat toldW) (.own (.hal plC [] [])) (.own (.hal plE [] [])) .un) := by kernel_rfl
theorem s17 (ns : List Int) : st17 (rr0 ns tw (.dat plA) h0 (.dat (.int 1)) (.dat toldW) (.own (.hal plC [] [])) (.own (.hal plE [] [])) .un) = some (.rt (.bool true), rr0 ns tw (.dat plA) h0 (.dat (.int 1)) (.dat toldW) (.own (.hal plC [] [])) (.own (.hal plE [] [])) .un) := by kernel_rfl
theorem law_true (ns : List Int) (h63 : ns.length ≤ 63) : ∃ ss, F_law [.scr ns] = some (.bool true, ss) := by
  refine ⟨[.scr ns], ?_⟩
  unfold F_law runO
  rw [lawB]
  simp only [List.length_cons, List.length_nil, Nat.reduceAdd, Nat.reduceSub, Nat.reduceLeDiff, ownsIn, and_self, if_true, List.replicate, List.cons_append, List.nil_append]
  rw [seq_run (s1 ns), seq_run (s2 ns), seq_run (s3 ns), seq_run (s4 ns), seq_run (s5 ns), seq_run (s6 ns), seq_run (s7 ns), seq_run (s8 ns), seq_run (s9 ns), seq_run (s10 ns), seq_run (s11 ns), seq_run (s12 ns), seq_run (s13 ns), seq_run (s14 ns), seq_run (s15 ns), seq_run (s16 ns), s17 ns]
  simp only [Option.bind_some, endO, backO, pick]
  rfl

end QP
set_option Elab.async false
set_option linter.all false
set_option maxRecDepth 100000
set_option maxHeartbeats 4000000
namespace QP
open PySem PySem.Spec PyProof.Rows L2 QL

theorem def_mk {K : QL.Fr} {h : Heap} {mg : Str → Option Value} {y x : Str} {st : Stmt} {ps : List Str} {f : Addr} {od an : Option Addr} {sl : Array (Option Value)} {oc kV dc pm cd ct : Value} (X : K.In h) (G : h.Ns mainGlobals mg)
    (a : PySem.W.nsIn K mainGlobals y = some (some (.ref f))) (l : K.lookup f = some ⟨oc, od, .func (PySem.W.fnOf x x (defArgs st) (defBody st) (defScope st) .none kV dc pm an cd ct), sl⟩) (c : PySem.W.codeIn K cd x = true) (k : PySem.W.keepIn K (.ref f) = true)
    (hb : ∀ (kV doc pm : Value) (an : Option Addr) (cdv ct : Value) (us : List Value), us.length = ps.length → bindArgs (PySem.W.fnOf x x (defArgs st) (defBody st) (defScope st) .none kV doc pm an cdv ct) ⟨us, []⟩ = pure (ps.zip us)) : Def K mg y x st ps :=
  ⟨f, _, fun_mk (st := st) l c k, PySem.W.mg_of X G a, (fun_mk (st := st) l c k).binds hb⟩
theorem glob_int {K : QL.Fr} {h : Heap} {mg : Str → Option Value} {x : Str} {i : Int} {t : Tok} (X : K.In h) (G : h.Ns mainGlobals mg) (a : PySem.W.nsIn K mainGlobals x = some (some (.int i t))) : GlobD K mg x (.int i) := ⟨.int i, _, PySem.W.mg_of X G a, ⟨t, rfl⟩, fun _ => .int i⟩
theorem glob_str {K : QL.Fr} {h : Heap} {mg : Str → Option Value} {x : Str} {i : Str} {t : Tok} (X : K.In h) (G : h.Ns mainGlobals mg) (a : PySem.W.nsIn K mainGlobals x = some (some (.str i t))) : GlobD K mg x (.str i) := ⟨.str i, _, PySem.W.mg_of X G a, ⟨t, rfl⟩, fun _ => .str i⟩
theorem glob_ii {K : QL.Fr} {h : Heap} {mg : Str → Option Value} {x : Str} {p : Addr} {i j : Int} {t u : Tok} {dd : Option Addr} {n : Nat} {sl : Array (Option Value)} (X : K.In h) (G : h.Ns mainGlobals mg) (a : PySem.W.nsIn K mainGlobals x = some (some (.ref p))) (l : K.lookup p = some ⟨.type "tuple", dd, .seq #[.int i t, .int j u] n, sl⟩) : GlobD K mg x (.tuple [.int i, .int j]) :=
  ⟨.ref p, _, PySem.W.mg_of X G a, rfl, fun _ => .tup (xs := [.int i, .int j]) (.inr ⟨_, _, _, l, rfl, rfl, (show 2 ≤ sizeLine by decide), .cons ⟨t, rfl⟩ (.cons ⟨u, rfl⟩ .nil)⟩) (.cons (.int i) (.cons (.int j) .nil))⟩
theorem glob_ss {K : QL.Fr} {h : Heap} {mg : Str → Option Value} {x : Str} {p : Addr} {i j : Str} {t u : Tok} {dd : Option Addr} {n : Nat} {sl : Array (Option Value)} (X : K.In h) (G : h.Ns mainGlobals mg) (a : PySem.W.nsIn K mainGlobals x = some (some (.ref p))) (l : K.lookup p = some ⟨.type "tuple", dd, .seq #[.str i t, .str j u] n, sl⟩) : GlobD K mg x (.tuple [.str i, .str j]) :=
  ⟨.ref p, _, PySem.W.mg_of X G a, rfl, fun _ => .tup (xs := [.str i, .str j]) (.inr ⟨_, _, _, l, rfl, rfl, (show 2 ≤ sizeLine by decide), .cons ⟨t, rfl⟩ (.cons ⟨u, rfl⟩ .nil)⟩) (.cons (.str i) (.cons (.str j) .nil))⟩
theorem cls_mk {K : QL.Fr} {h : Heap} {mg : Str → Option Value} {y : Str} {C : Addr} (X : K.In h) (G : h.Ns mainGlobals mg) (a : PySem.W.nsIn K mainGlobals y = some (some (.ref C))) (k : PySem.W.keepIn K (.ref C) = true) (e : PySem.W.excIn K C veM "ValueError.__new__" = true) (s : PySem.W.subIn K (.ref C) (.type "BaseException") = some true) (t : PySem.W.typeIn K (.ref C) = some (.type "type")) : ClsOk K mg (cmOf mg) veM "ValueError.__new__" y :=
  ⟨C, by unfold cmOf; rw [PySem.W.mg_of X G a]; rfl, PySem.W.mg_of X G a, k, e, s, t⟩
theorem nam_mk {K : QL.Fr} {h : Heap} {mg : Str → Option Value} {y : Str} {C : Addr} (X : K.In h) (G : h.Ns mainGlobals mg) (a : PySem.W.nsIn K mainGlobals y = some (some (.ref C))) : mg y = some (cmOf mg y) := by
  unfold cmOf; rw [PySem.W.mg_of X G a]; rfl
theorem exm_mk {K : QL.Fr} {h : Heap} {mg : Str → Option Value} {z y : Str} {C D : Addr} (X : K.In h) (G : h.Ns mainGlobals mg) (a : PySem.W.nsIn K mainGlobals z = some (some (.ref C))) (b : PySem.W.nsIn K mainGlobals y = some (some (.ref D))) (e : PySem.W.exmOne K (.ref C) (.ref D) = some true) : PySem.W.exmOne K (cmOf mg z) (cmOf mg y) = some true := by
  unfold cmOf; rw [PySem.W.mg_of X G a, PySem.W.mg_of X G b]; exact e
theorem hA_of {K : QL.Fr} {C : Addr} (a : PySem.W.nsIn K mainGlobals "Hall" = some (some (.ref C))) : hA K = C := by
  unfold hA; rw [a]
theorem hal_mk {K : QL.Fr} {h : Heap} {mg : Str → Option Value} {C : Addr} (X : K.In h) (G : h.Ns mainGlobals mg) (a : PySem.W.nsIn K mainGlobals "Hall" = some (some (.ref C)))
    (c1 : PySem.W.plainGet K C Str.empty = true) (c2 : PySem.W.hasDictIn K C = true) (c3 : PySem.W.plainOver K C = true) (c4 : PySem.W.findIn K (.ref C) "__setattr__" = some (some (.builtin "object.__setattr__")))
    (n1 : PySem.W.findIn K (.ref C) "how" = some none) (n2 : PySem.W.findIn K (.ref C) "past" = some none) (n3 : PySem.W.findIn K (.ref C) "calls" = some none)
    (i1 : PySem.W.findIn K (.ref C) "__class__" = some (some (.builtin "object.__class__"))) (i2 : PySem.W.specialIn K (.builtin "object.__class__") "__get__" = some (some (.builtin "getset_descriptor.__get__"))) (i3 : PySem.W.takesIn K (.builtin "object.__class__") = some true) (i4 : PySem.W.mroIn K C (.type "object") = some true) (i5 : PySem.W.kitOne K (.ref C) (.ref C) = some true)
    (k1 : PySem.W.kitOne K (.type "str") (.ref C) = some false) (s1 : PySem.W.subIn K (.type "str") (.ref C) = some false) : HalT K mg := by
  have e := hA_of a
  refine ⟨?_, ?_, ?_, ?_, ?_⟩ <;> rw [e]
  · exact ⟨a, ⟨c1, c2, c3, c4⟩, n1, n2, n3⟩
  · exact ⟨⟨c1, c2, c3, c4⟩, i1, i2, i3, i4, i5⟩
  · exact k1
  · exact s1
  · exact PySem.W.mg_of X G a
theorem defMt_mk {K : QL.Fr} {h : Heap} {mg : Str → Option Value} {m qual : Str} {st : Stmt} {ps : List Str} {C f : Addr} {od an : Option Addr} {sl : Array (Option Value)} {oc kV dc pm cd ct : Value}
    (aC : PySem.W.nsIn K mainGlobals "Hall" = some (some (.ref C))) (fn : PySem.W.isFn K (.ref f) = true) (a : PySem.W.findIn K (.ref C) m = some (some (.ref f)))
    (l : K.lookup f = some ⟨oc, od, .func (PySem.W.fnOf m qual (defArgs st) (defBody st) (defScope st) .none kV dc pm an cd ct), sl⟩) (c : PySem.W.codeIn K cd qual = true) (k : PySem.W.keepIn K (.ref f) = true)
    (hb : ∀ (kV doc pm : Value) (an : Option Addr) (cdv ct : Value) (us : List Value), us.length = ps.length → bindArgs (PySem.W.fnOf m qual (defArgs st) (defBody st) (defScope st) .none kV doc pm an cdv ct) ⟨us, []⟩ = pure (ps.zip us)) : DefMt K mg m qual st ps :=
  ⟨f, _, by rw [hA_of aC]; exact ⟨a, fn, k⟩, fun_mk (st := st) l c k, (fun_mk (st := st) l c k).binds hb⟩
theorem defNew_mk {K : QL.Fr} {h : Heap} {mg : Str → Option Value} {qual : Str} {st : Stmt} {ps : List Str} {C f : Addr} {od an : Option Addr} {sl : Array (Option Value)} {oc kV dc pm cd ct : Value}
    (aC : PySem.W.nsIn K mainGlobals "Hall" = some (some (.ref C))) (mk : PySem.W.makesIn K C = true) (kc : PySem.W.keepIn K (.ref C) = true) (fn : PySem.W.isFn K (.ref f) = true) (a : PySem.W.findIn K (.ref C) "__init__" = some (some (.ref f)))
    (l : K.lookup f = some ⟨oc, od, .func (PySem.W.fnOf "__init__" qual (defArgs st) (defBody st) (defScope st) .none kV dc pm an cd ct), sl⟩) (c : PySem.W.codeIn K cd qual = true) (k : PySem.W.keepIn K (.ref f) = true)
    (hb : ∀ (kV doc pm : Value) (an : Option Addr) (cdv ct : Value) (us : List Value), us.length = ps.length → bindArgs (PySem.W.fnOf "__init__" qual (defArgs st) (defBody st) (defScope st) .none kV doc pm an cdv ct) ⟨us, []⟩ = pure (ps.zip us)) : DefNew K mg "__init__" qual st ps :=
  ⟨f, _, by rw [hA_of aC]; exact ⟨mk, a, fn, kc⟩, fun_mk (st := st) l c k, (fun_mk (st := st) l c k).binds hb⟩
theorem wh_mk {K : QL.Fr} {h : Heap} {mg : Str → Option Value} {z : Str} {C : Addr} (X : K.In h) (G : h.Ns mainGlobals mg) (a : PySem.W.nsIn K mainGlobals z = some (some (.ref C)))
    (h1 : PySem.W.findIn K (.ref C) "__getattribute__" = some (some (.builtin "BaseException.__getattribute__"))) (h2 : PySem.W.findIn K (.ref C) "__getattr__" = some none) (h3 : PySem.W.subIn K (.ref C) (.type "BaseException") = some true) (h4 : PySem.W.hasDictIn K C = true) (h5 : PySem.W.findIn K (.ref C) "__class__" = some (some (.builtin "object.__class__"))) (h6 : PySem.W.specialIn K (.builtin "object.__class__") "__get__" = some (some (.builtin "getset_descriptor.__get__"))) (h7 : PySem.W.takesIn K (.builtin "object.__class__") = some true) (h8 : PySem.W.mroIn K C (.type "object") = some true) (hv : PySem.W.kitOne K (.ref C) (.type "ValueError") = some true)
    {D0 : Addr} {b0 : Bool} (a0 : PySem.W.nsIn K mainGlobals "NoPlan" = some (some (.ref D0))) (k0 : PySem.W.kitOne K (.ref C) (.ref D0) = some b0) (e0 : whTt z "NoPlan" = b0)
    {D1 : Addr} {b1 : Bool} (a1 : PySem.W.nsIn K mainGlobals "NoLevels" = some (some (.ref D1))) (k1 : PySem.W.kitOne K (.ref C) (.ref D1) = some b1) (e1 : whTt z "NoLevels" = b1)
    {D2 : Addr} {b2 : Bool} (a2 : PySem.W.nsIn K mainGlobals "NoWidths" = some (some (.ref D2))) (k2 : PySem.W.kitOne K (.ref C) (.ref D2) = some b2) (e2 : whTt z "NoWidths" = b2)
    {D3 : Addr} {b3 : Bool} (a3 : PySem.W.nsIn K mainGlobals "NoBeam" = some (some (.ref D3))) (k3 : PySem.W.kitOne K (.ref C) (.ref D3) = some b3) (e3 : whTt z "NoBeam" = b3)
    {D4 : Addr} {b4 : Bool} (a4 : PySem.W.nsIn K mainGlobals "NoRoom" = some (some (.ref D4))) (k4 : PySem.W.kitOne K (.ref C) (.ref D4) = some b4) (e4 : whTt z "NoRoom" = b4)
    {D5 : Addr} {b5 : Bool} (a5 : PySem.W.nsIn K mainGlobals "NoProportion" = some (some (.ref D5))) (k5 : PySem.W.kitOne K (.ref C) (.ref D5) = some b5) (e5 : whTt z "NoProportion" = b5)
    {D6 : Addr} {b6 : Bool} (a6 : PySem.W.nsIn K mainGlobals "Parted" = some (some (.ref D6))) (k6 : PySem.W.kitOne K (.ref C) (.ref D6) = some b6) (e6 : whTt z "Parted" = b6)
    {D7 : Addr} {b7 : Bool} (a7 : PySem.W.nsIn K mainGlobals "NoNest" = some (some (.ref D7))) (k7 : PySem.W.kitOne K (.ref C) (.ref D7) = some b7) (e7 : whTt z "NoNest" = b7)
    {D8 : Addr} {b8 : Bool} (a8 : PySem.W.nsIn K mainGlobals "NoText" = some (some (.ref D8))) (k8 : PySem.W.kitOne K (.ref C) (.ref D8) = some b8) (e8 : whTt z "NoText" = b8)
    {D9 : Addr} {b9 : Bool} (a9 : PySem.W.nsIn K mainGlobals "Nothing" = some (some (.ref D9))) (k9 : PySem.W.kitOne K (.ref C) (.ref D9) = some b9) (e9 : whTt z "Nothing" = b9) : WhOk K mg z := by
  refine ⟨C, by unfold cmOf; rw [PySem.W.mg_of X G a]; rfl, ⟨h1, h2, h3, h4, h5, h6, h7, h8⟩, hv, fun y hy => ?_⟩
  unfold kinds at hy
  simp only [List.mem_cons, List.not_mem_nil, or_false] at hy
  rcases hy with rfl | rfl | rfl | rfl | rfl | rfl | rfl | rfl | rfl | rfl
  · exact ⟨D0, PySem.W.mg_of X G a0, by rw [k0, e0]⟩
  · exact ⟨D1, PySem.W.mg_of X G a1, by rw [k1, e1]⟩
  · exact ⟨D2, PySem.W.mg_of X G a2, by rw [k2, e2]⟩
  · exact ⟨D3, PySem.W.mg_of X G a3, by rw [k3, e3]⟩
  · exact ⟨D4, PySem.W.mg_of X G a4, by rw [k4, e4]⟩
  · exact ⟨D5, PySem.W.mg_of X G a5, by rw [k5, e5]⟩
  · exact ⟨D6, PySem.W.mg_of X G a6, by rw [k6, e6]⟩
  · exact ⟨D7, PySem.W.mg_of X G a7, by rw [k7, e7]⟩
  · exact ⟨D8, PySem.W.mg_of X G a8, by rw [k8, e8]⟩
  · exact ⟨D9, PySem.W.mg_of X G a9, by rw [k9, e9]⟩
theorem all_ok {P : Program} {w : World} {K : QL.Fr} {mg : Str → Option Value} {base : Heap} (T : Txt K mg) (X_is_any_whole : Def K mg "is_any_whole" "is_any_whole" s_is_any_whole ["thing"]) (X_is_whole : Def K mg "is_whole" "is_whole" s_is_whole ["thing", "low", "high"]) (X_common : Def K mg "common" "common" s_common ["one", "other"]) (X_made_of : Def K mg "made_of" "made_of" s_made_of ["top", "bottom"]) (X_is_fraction : Def K mg "is_fraction" "is_fraction" s_is_fraction ["thing"]) (X_plus : Def K mg "plus" "plus" s_plus ["one", "other"]) (X_less : Def K mg "less" "less" s_less ["one"]) (X_minus : Def K mg "minus" "minus" s_minus ["one", "other"]) (X_times : Def K mg "times" "times" s_times ["one", "other"]) (X_over : Def K mg "over" "over" s_over ["one", "other"]) (X_total : Def K mg "total" "total" s_total ["some"]) (X_is_proportion : Def K mg "is_proportion" "is_proportion" s_is_proportion ["thing"]) (X_is_room : Def K mg "is_room" "is_room" s_is_room ["beams", "thing"]) (X_joined_from : Def K mg "joined_from" "joined_from" s_joined_from ["rooms", "start"]) (X_hangs_together : Def K mg "hangs_together" "hangs_together" s_hangs_together ["beams", "rooms"]) (X_good_plan : Def K mg "good_plan" "good_plan" s_good_plan ["thing"]) (X_need_plan : Def K mg "need_plan" "need_plan" s_need_plan ["plan"]) (X_solved : Def K mg "solved" "solved" s_solved ["rows"]) (X_pulls_of : Def K mg "pulls_of" "pulls_of" s_pulls_of ["beams", "rooms", "beam"]) (X_levels_by : Def K mg "levels_by" "levels_by" s_levels_by ["beams", "rooms", "fixed", "leaving"]) (X_levels_of : Def K mg "levels_of" "levels_of" s_levels_of ["plan"]) (X_widths_by : Def K mg "widths_by" "widths_by" s_widths_by ["rooms", "some"]) (X_hanging : Def K mg "hanging" "hanging" s_hanging ["rooms", "some", "beam"]) (X_hall_of : Def K mg "hall_of" "hall_of" s_hall_of ["plan"]) (X_with_room : Def K mg "with_room" "with_room" s_with_room ["plan", "room"]) (X_need_number : Def K mg "need_number" "need_number" s_need_number ["plan", "number"]) (X_without_room : Def K mg "without_room" "without_room" s_without_room ["plan", "number"]) (X_wider : Def K mg "wider" "wider" s_wider ["plan", "number", "proportion"]) (X_Hall_init : DefNew K mg "__init__" "Hall.__init__" s_Hall_init ["self", "plan"]) (X_Hall_call : DefMt K mg "call" "Hall.call" s_Hall_call ["self", "name", "how"]) (X_Hall_put : DefMt K mg "put" "Hall.put" s_Hall_put ["self", "room"]) (X_Hall_take : DefMt K mg "take" "Hall.take" s_Hall_take ["self", "number"]) (X_Hall_widen : DefMt K mg "widen" "Hall.widen" s_Hall_widen ["self", "number", "proportion"]) (X_Hall_plan : DefMt K mg "plan" "Hall.plan" s_Hall_plan ["self"]) (X_Hall_proportion : DefMt K mg "proportion" "Hall.proportion" s_Hall_proportion ["self"]) (X_Hall_back : DefMt K mg "back" "Hall.back" s_Hall_back ["self"]) (X_Hall_eq : DefMt K mg "__eq__" "Hall.__eq__" s_Hall_eq ["self", "other"]) (X_Hall_len : DefMt K mg "__len__" "Hall.__len__" s_Hall_len ["self"]) (X_Hall_str : DefMt K mg "__str__" "Hall.__str__" s_Hall_str ["self"]) (X__law_same_truth : Def K mg "_law_same_truth" "_law_same_truth" s__law_same_truth ["got", "due"]) (X__law_which : Def K mg "_law_which" "_law_which" s__law_which ["e"]) (X__law_ask : Def K mg "_law_ask" "_law_ask" s__law_ask ["what", "here", "one", "two"]) {ff : Addr} {fd : FuncData} (FF : Fun K "law" "law" s_law ff fd) : FnOk P w K mg base CX0 16 ff fd ["script"] (spO K F_law 1) := by
  have h_is_any_whole := ok_is_any_whole (P := P) (w := w) (base := base) T X_is_any_whole
  have h_is_whole := ok_is_whole (P := P) (w := w) (base := base) T X_is_whole h_is_any_whole
  have h_common := ok_common (P := P) (w := w) (base := base) T X_common
  have h_made_of := ok_made_of (P := P) (w := w) (base := base) T X_made_of h_common
  have h_is_fraction := ok_is_fraction (P := P) (w := w) (base := base) T X_is_fraction h_common h_is_any_whole
  have h_plus := ok_plus (P := P) (w := w) (base := base) T X_plus h_made_of
  have h_less := ok_less (P := P) (w := w) (base := base) T X_less
  have h_minus := ok_minus (P := P) (w := w) (base := base) T X_minus h_less h_plus
  have h_times := ok_times (P := P) (w := w) (base := base) T X_times h_made_of
  have h_over := ok_over (P := P) (w := w) (base := base) T X_over h_made_of
  have h_total := ok_total (P := P) (w := w) (base := base) T X_total h_plus
  have h_is_proportion := ok_is_proportion (P := P) (w := w) (base := base) T X_is_proportion h_is_fraction
  have h_is_room := ok_is_room (P := P) (w := w) (base := base) T X_is_room h_is_proportion h_is_whole
  have h_joined_from := ok_joined_from (P := P) (w := w) (base := base) T X_joined_from
  have h_hangs_together := ok_hangs_together (P := P) (w := w) (base := base) T X_hangs_together h_joined_from
  have h_good_plan := ok_good_plan (P := P) (w := w) (base := base) T X_good_plan h_hangs_together h_is_room h_is_whole
  have h_need_plan := ok_need_plan (P := P) (w := w) (base := base) T X_need_plan h_good_plan
  have hX_need_plan := okX_need_plan (P := P) (w := w) (base := base) T X_need_plan h_good_plan
  have h_solved := ok_solved (P := P) (w := w) (base := base) T X_solved h_minus h_over h_times
  have h_pulls_of := ok_pulls_of (P := P) (w := w) (base := base) T X_pulls_of h_minus h_plus
  have h_levels_by := ok_levels_by (P := P) (w := w) (base := base) T X_levels_by h_minus h_pulls_of h_solved h_times
  have h_levels_of := ok_levels_of (P := P) (w := w) (base := base) T X_levels_of h_levels_by
  have h_widths_by := ok_widths_by (P := P) (w := w) (base := base) T X_widths_by h_minus h_times
  have h_hanging := ok_hanging (P := P) (w := w) (base := base) T X_hanging h_less h_total
  have h_hall_of := ok_hall_of (P := P) (w := w) (base := base) T X_hall_of h_hanging h_levels_of h_widths_by
  have h_with_room := ok_with_room (P := P) (w := w) (base := base) T X_with_room h_is_room h_need_plan
  have hX_with_room := okX_with_room (P := P) (w := w) (base := base) T X_with_room h_is_room hX_need_plan
  have h_need_number := ok_need_number (P := P) (w := w) (base := base) T X_need_number h_is_whole h_need_plan
  have hX_need_number := okX_need_number (P := P) (w := w) (base := base) T X_need_number h_is_whole hX_need_plan
  have h_without_room := ok_without_room (P := P) (w := w) (base := base) T X_without_room h_hangs_together h_need_number
  have hX_without_room := okX_without_room (P := P) (w := w) (base := base) T X_without_room h_hangs_together hX_need_number
  have h_wider := ok_wider (P := P) (w := w) (base := base) T X_wider h_is_proportion h_need_number
  have hX_wider := okX_wider (P := P) (w := w) (base := base) T X_wider h_is_proportion hX_need_number
  have h_Hall_init := ok_Hall_init (P := P) (w := w) (base := base) T X_Hall_init h_need_plan
  have h_Hall_call := ok_Hall_call (P := P) (w := w) (base := base) T X_Hall_call h_hall_of
  have h_Hall_put := ok_Hall_put (P := P) (w := w) (base := base) T X_Hall_put h_with_room h_Hall_call
  have hX_Hall_put := okX_Hall_put (P := P) (w := w) (base := base) T X_Hall_put hX_with_room h_Hall_call
  have h_Hall_take := ok_Hall_take (P := P) (w := w) (base := base) T X_Hall_take h_without_room h_Hall_call
  have hX_Hall_take := okX_Hall_take (P := P) (w := w) (base := base) T X_Hall_take hX_without_room h_Hall_call
  have h_Hall_widen := ok_Hall_widen (P := P) (w := w) (base := base) T X_Hall_widen h_wider h_Hall_call
  have hX_Hall_widen := okX_Hall_widen (P := P) (w := w) (base := base) T X_Hall_widen hX_wider h_Hall_call
  have h_Hall_plan := ok_Hall_plan (P := P) (w := w) (base := base) T X_Hall_plan
  have h_Hall_proportion := ok_Hall_proportion (P := P) (w := w) (base := base) T X_Hall_proportion h_hall_of
  have hX_Hall_back := okX_Hall_back (P := P) (w := w) (base := base) T X_Hall_back
  have h_Hall_eq := ok_Hall_eq (P := P) (w := w) (base := base) T X_Hall_eq
  have h_Hall_len := ok_Hall_len (P := P) (w := w) (base := base) T X_Hall_len
  have h_Hall_str := ok_Hall_str (P := P) (w := w) (base := base) T X_Hall_str h_hall_of
  have h__law_same_truth := ok__law_same_truth (P := P) (w := w) (base := base) T X__law_same_truth
  have hW := okW (P := P) (w := w) (base := base) T X__law_which
  have h__law_ask := ok__law_ask (P := P) (w := w) (base := base) T X__law_ask hW hX_Hall_back hX_Hall_put hX_Hall_take hX_Hall_widen
  exact ok_law T FF h__law_ask h__law_same_truth h_Hall_eq h_Hall_init h_Hall_len h_Hall_plan h_Hall_proportion h_Hall_put h_Hall_str h_Hall_take h_Hall_widen
theorem law_mk {l : PySem.W.OpenLaw} {w : World} {K : QL.Fr} {h : Heap} {mg : Str → Option Value} {fa f : Addr} {od an : Option Addr} {sl : Array (Option Value)} {oc kV dc pm cd ct : Value} (X : K.In h) (G : h.Ns mainGlobals mg) (hfa : mg "law" = some (.ref fa))
    (a : PySem.W.nsIn K mainGlobals "law" = some (some (.ref f))) (lk : K.lookup f = some ⟨oc, od, .func (PySem.W.fnOf "law" "law" (defArgs s_law) (defBody s_law) (defScope s_law) .none kV dc pm an cd ct), sl⟩) (c : PySem.W.codeIn K cd "law" = true) (k : PySem.W.keepIn K (.ref f) = true) (T : Txt K mg) (X_is_any_whole : Def K mg "is_any_whole" "is_any_whole" s_is_any_whole ["thing"]) (X_is_whole : Def K mg "is_whole" "is_whole" s_is_whole ["thing", "low", "high"]) (X_common : Def K mg "common" "common" s_common ["one", "other"]) (X_made_of : Def K mg "made_of" "made_of" s_made_of ["top", "bottom"]) (X_is_fraction : Def K mg "is_fraction" "is_fraction" s_is_fraction ["thing"]) (X_plus : Def K mg "plus" "plus" s_plus ["one", "other"]) (X_less : Def K mg "less" "less" s_less ["one"]) (X_minus : Def K mg "minus" "minus" s_minus ["one", "other"]) (X_times : Def K mg "times" "times" s_times ["one", "other"]) (X_over : Def K mg "over" "over" s_over ["one", "other"]) (X_total : Def K mg "total" "total" s_total ["some"]) (X_is_proportion : Def K mg "is_proportion" "is_proportion" s_is_proportion ["thing"]) (X_is_room : Def K mg "is_room" "is_room" s_is_room ["beams", "thing"]) (X_joined_from : Def K mg "joined_from" "joined_from" s_joined_from ["rooms", "start"]) (X_hangs_together : Def K mg "hangs_together" "hangs_together" s_hangs_together ["beams", "rooms"]) (X_good_plan : Def K mg "good_plan" "good_plan" s_good_plan ["thing"]) (X_need_plan : Def K mg "need_plan" "need_plan" s_need_plan ["plan"]) (X_solved : Def K mg "solved" "solved" s_solved ["rows"]) (X_pulls_of : Def K mg "pulls_of" "pulls_of" s_pulls_of ["beams", "rooms", "beam"]) (X_levels_by : Def K mg "levels_by" "levels_by" s_levels_by ["beams", "rooms", "fixed", "leaving"]) (X_levels_of : Def K mg "levels_of" "levels_of" s_levels_of ["plan"]) (X_widths_by : Def K mg "widths_by" "widths_by" s_widths_by ["rooms", "some"]) (X_hanging : Def K mg "hanging" "hanging" s_hanging ["rooms", "some", "beam"]) (X_hall_of : Def K mg "hall_of" "hall_of" s_hall_of ["plan"]) (X_with_room : Def K mg "with_room" "with_room" s_with_room ["plan", "room"]) (X_need_number : Def K mg "need_number" "need_number" s_need_number ["plan", "number"]) (X_without_room : Def K mg "without_room" "without_room" s_without_room ["plan", "number"]) (X_wider : Def K mg "wider" "wider" s_wider ["plan", "number", "proportion"]) (X_Hall_init : DefNew K mg "__init__" "Hall.__init__" s_Hall_init ["self", "plan"]) (X_Hall_call : DefMt K mg "call" "Hall.call" s_Hall_call ["self", "name", "how"]) (X_Hall_put : DefMt K mg "put" "Hall.put" s_Hall_put ["self", "room"]) (X_Hall_take : DefMt K mg "take" "Hall.take" s_Hall_take ["self", "number"]) (X_Hall_widen : DefMt K mg "widen" "Hall.widen" s_Hall_widen ["self", "number", "proportion"]) (X_Hall_plan : DefMt K mg "plan" "Hall.plan" s_Hall_plan ["self"]) (X_Hall_proportion : DefMt K mg "proportion" "Hall.proportion" s_Hall_proportion ["self"]) (X_Hall_back : DefMt K mg "back" "Hall.back" s_Hall_back ["self"]) (X_Hall_eq : DefMt K mg "__eq__" "Hall.__eq__" s_Hall_eq ["self", "other"]) (X_Hall_len : DefMt K mg "__len__" "Hall.__len__" s_Hall_len ["self"]) (X_Hall_str : DefMt K mg "__str__" "Hall.__str__" s_Hall_str ["self"]) (X__law_same_truth : Def K mg "_law_same_truth" "_law_same_truth" s__law_same_truth ["got", "due"]) (X__law_which : Def K mg "_law_which" "_law_which" s__law_which ["e"]) (X__law_ask : Def K mg "_law_ask" "_law_ask" s__law_ask ["what", "here", "one", "two"]) :
    ∃ fd : FuncData, (∀ (s : Shared) (v : Value), BindsTo s fd ⟨[v], []⟩ [("script", v)]) ∧ ∀ base : Heap, K.In base → base.Ns mainGlobals mg → FnOk l.prog w K mg base CX0 16 fa fd ["script"] (spLaw K) := by
  have e := hfa.symm.trans (PySem.W.mg_of X G a)
  cases e
  exact ⟨PySem.W.fnOf "law" "law" (defArgs s_law) (defBody s_law) (defScope s_law) .none kV dc pm an cd ct, fun s v => .of_eq rfl, fun base _ _ => law_of (all_ok T X_is_any_whole X_is_whole X_common X_made_of X_is_fraction X_plus X_less X_minus X_times X_over X_total X_is_proportion X_is_room X_joined_from X_hangs_together X_good_plan X_need_plan X_solved X_pulls_of X_levels_by X_levels_of X_widths_by X_hanging X_hall_of X_with_room X_need_number X_without_room X_wider X_Hall_init X_Hall_call X_Hall_put X_Hall_take X_Hall_widen X_Hall_plan X_Hall_proportion X_Hall_back X_Hall_eq X_Hall_len X_Hall_str X__law_same_truth X__law_which X__law_ask (fun_mk (st := s_law) lk c k)) law_true⟩
end QP
open PySem PySem.W PyProof.Rows
set_option maxHeartbeats 0 in
theorem PySem.Challenge.cw_roomhalls_k32_halls_refused_holds : PySem.Challenge.rw_roomhalls_k32_halls_refused.Holds := by
  w_on; o_law; k_head; (case hw => w_witness2)
  k_fill
  refine L2.walk_of (l := PySem.Challenge.rw_roomhalls_k32_halls_refused) (n := 63) (k := 16) (x := "script") (CX := fun _ => L2.CX0) (sp := fun w => QL.spLaw _) rfl (by decide) rfl ⟨rfl, by decide, by decide⟩ (fun w h Y => PySem.W.kIn_of Y) ?F (fun _ _ a ns hl _ hS => ⟨a, ns, rfl, hS, hl, fun _ => rfl⟩) (fun _ _ _ _ _ h => h)
  case F =>
    intro w mg fa h KX G hmg
    refine' QP.law_mk KX G hmg ?a ?l ?c ?k ⟨PySem.W.mg_none_of KX G ?z_len, PySem.W.mg_none_of KX G ?z_abs, PySem.W.mg_none_of KX G ?z_range, PySem.W.mg_none_of KX G ?z_zip, PySem.W.mg_none_of KX G ?z_enumerate, PySem.W.mg_none_of KX G ?z_all, PySem.W.mg_none_of KX G ?z_any, PySem.W.mg_none_of KX G ?z_isinstance, PySem.W.mg_none_of KX G ?z_tuple, PySem.W.mg_none_of KX G ?z_list, PySem.W.mg_none_of KX G ?z_int, PySem.W.mg_none_of KX G ?z_str, PySem.W.mg_none_of KX G ?z_bool, PySem.W.mg_none_of KX G ?z_min, PySem.W.mg_none_of KX G ?z_max, PySem.W.mg_none_of KX G ?z_sum, PySem.W.mg_none_of KX G ?z_sorted, PySem.W.mg_none_of KX G ?z_set, PySem.W.mg_none_of KX G ?z_ValueError, QP.glob_ii KX G ?c_NOUGHT ?d_NOUGHT, QP.glob_ii KX G ?c_ONE ?d_ONE, QP.glob_int KX G ?c_BEAMS, QP.glob_int KX G ?c_ROOMS, QP.cls_mk KX G ?ea_NoPlan ?ek_NoPlan ?ee_NoPlan ?es_NoPlan ?et_NoPlan, QP.cls_mk KX G ?ea_NoProportion ?ek_NoProportion ?ee_NoProportion ?es_NoProportion ?et_NoProportion, QP.cls_mk KX G ?ea_NoRoom ?ek_NoRoom ?ee_NoRoom ?es_NoRoom ?et_NoRoom, QP.cls_mk KX G ?ea_Nothing ?ek_Nothing ?ee_Nothing ?es_Nothing ?et_Nothing, QP.cls_mk KX G ?ea_Parted ?ek_Parted ?ee_Parted ?es_Parted ?et_Parted, QP.nam_mk KX G ?na_RoomError, QP.exm_mk KX G ?xa_NoPlan_RoomError ?xb_NoPlan_RoomError ?xe_NoPlan_RoomError, QP.exm_mk KX G ?xa_NoProportion_RoomError ?xb_NoProportion_RoomError ?xe_NoProportion_RoomError, QP.exm_mk KX G ?xa_NoRoom_RoomError ?xb_NoRoom_RoomError ?xe_NoRoom_RoomError, QP.exm_mk KX G ?xa_Nothing_RoomError ?xb_Nothing_RoomError ?xe_Nothing_RoomError, QP.exm_mk KX G ?xa_Parted_RoomError ?xb_Parted_RoomError ?xe_Parted_RoomError, QP.wh_mk (b0 := true) (b1 := false) (b2 := false) (b3 := false) (b4 := false) (b5 := false) (b6 := false) (b7 := false) (b8 := false) (b9 := false) KX G ?wa_NoPlan ?w1_NoPlan ?w2_NoPlan ?w3_NoPlan ?w4_NoPlan ?w5_NoPlan ?w6_NoPlan ?w7_NoPlan ?w8_NoPlan ?wv_NoPlan ?wa0_NoPlan ?wk0_NoPlan (by decide) ?wa1_NoPlan ?wk1_NoPlan (by decide) ?wa2_NoPlan ?wk2_NoPlan (by decide) ?wa3_NoPlan ?wk3_NoPlan (by decide) ?wa4_NoPlan ?wk4_NoPlan (by decide) ?wa5_NoPlan ?wk5_NoPlan (by decide) ?wa6_NoPlan ?wk6_NoPlan (by decide) ?wa7_NoPlan ?wk7_NoPlan (by decide) ?wa8_NoPlan ?wk8_NoPlan (by decide) ?wa9_NoPlan ?wk9_NoPlan (by decide), QP.wh_mk (b0 := false) (b1 := false) (b2 := false) (b3 := false) (b4 := true) (b5 := false) (b6 := false) (b7 := false) (b8 := false) (b9 := false) KX G ?wa_NoRoom ?w1_NoRoom ?w2_NoRoom ?w3_NoRoom ?w4_NoRoom ?w5_NoRoom ?w6_NoRoom ?w7_NoRoom ?w8_NoRoom ?wv_NoRoom ?wa0_NoRoom ?wk0_NoRoom (by decide) ?wa1_NoRoom ?wk1_NoRoom (by decide) ?wa2_NoRoom ?wk2_NoRoom (by decide) ?wa3_NoRoom ?wk3_NoRoom (by decide) ?wa4_NoRoom ?wk4_NoRoom (by decide) ?wa5_NoRoom ?wk5_NoRoom (by decide) ?wa6_NoRoom ?wk6_NoRoom (by decide) ?wa7_NoRoom ?wk7_NoRoom (by decide) ?wa8_NoRoom ?wk8_NoRoom (by decide) ?wa9_NoRoom ?wk9_NoRoom (by decide), QP.wh_mk (b0 := false) (b1 := false) (b2 := false) (b3 := false) (b4 := false) (b5 := true) (b6 := false) (b7 := false) (b8 := false) (b9 := false) KX G ?wa_NoProportion ?w1_NoProportion ?w2_NoProportion ?w3_NoProportion ?w4_NoProportion ?w5_NoProportion ?w6_NoProportion ?w7_NoProportion ?w8_NoProportion ?wv_NoProportion ?wa0_NoProportion ?wk0_NoProportion (by decide) ?wa1_NoProportion ?wk1_NoProportion (by decide) ?wa2_NoProportion ?wk2_NoProportion (by decide) ?wa3_NoProportion ?wk3_NoProportion (by decide) ?wa4_NoProportion ?wk4_NoProportion (by decide) ?wa5_NoProportion ?wk5_NoProportion (by decide) ?wa6_NoProportion ?wk6_NoProportion (by decide) ?wa7_NoProportion ?wk7_NoProportion (by decide) ?wa8_NoProportion ?wk8_NoProportion (by decide) ?wa9_NoProportion ?wk9_NoProportion (by decide), QP.wh_mk (b0 := false) (b1 := false) (b2 := false) (b3 := false) (b4 := false) (b5 := false) (b6 := true) (b7 := false) (b8 := false) (b9 := false) KX G ?wa_Parted ?w1_Parted ?w2_Parted ?w3_Parted ?w4_Parted ?w5_Parted ?w6_Parted ?w7_Parted ?w8_Parted ?wv_Parted ?wa0_Parted ?wk0_Parted (by decide) ?wa1_Parted ?wk1_Parted (by decide) ?wa2_Parted ?wk2_Parted (by decide) ?wa3_Parted ?wk3_Parted (by decide) ?wa4_Parted ?wk4_Parted (by decide) ?wa5_Parted ?wk5_Parted (by decide) ?wa6_Parted ?wk6_Parted (by decide) ?wa7_Parted ?wk7_Parted (by decide) ?wa8_Parted ?wk8_Parted (by decide) ?wa9_Parted ?wk9_Parted (by decide), QP.wh_mk (b0 := false) (b1 := false) (b2 := false) (b3 := false) (b4 := false) (b5 := false) (b6 := false) (b7 := false) (b8 := false) (b9 := true) KX G ?wa_Nothing ?w1_Nothing ?w2_Nothing ?w3_Nothing ?w4_Nothing ?w5_Nothing ?w6_Nothing ?w7_Nothing ?w8_Nothing ?wv_Nothing ?wa0_Nothing ?wk0_Nothing (by decide) ?wa1_Nothing ?wk1_Nothing (by decide) ?wa2_Nothing ?wk2_Nothing (by decide) ?wa3_Nothing ?wk3_Nothing (by decide) ?wa4_Nothing ?wk4_Nothing (by decide) ?wa5_Nothing ?wk5_Nothing (by decide) ?wa6_Nothing ?wk6_Nothing (by decide) ?wa7_Nothing ?wk7_Nothing (by decide) ?wa8_Nothing ?wk8_Nothing (by decide) ?wa9_Nothing ?wk9_Nothing (by decide), QP.hal_mk KX G ?ha ?h1 ?h2 ?h3 ?h4 ?h5 ?h6 ?h7 ?h8 ?h9 ?h10 ?h11 ?h12 ?h13 ?h14⟩ (QP.def_mk KX G ?a_is_any_whole ?l_is_any_whole ?c_is_any_whole ?k_is_any_whole (fun _ _ _ _ _ _ us hl => match us, hl with | [_], _ => rfl)) (QP.def_mk KX G ?a_is_whole ?l_is_whole ?c_is_whole ?k_is_whole (fun _ _ _ _ _ _ us hl => match us, hl with | [_, _, _], _ => rfl)) (QP.def_mk KX G ?a_common ?l_common ?c_common ?k_common (fun _ _ _ _ _ _ us hl => match us, hl with | [_, _], _ => rfl)) (QP.def_mk KX G ?a_made_of ?l_made_of ?c_made_of ?k_made_of (fun _ _ _ _ _ _ us hl => match us, hl with | [_, _], _ => rfl)) (QP.def_mk KX G ?a_is_fraction ?l_is_fraction ?c_is_fraction ?k_is_fraction (fun _ _ _ _ _ _ us hl => match us, hl with | [_], _ => rfl)) (QP.def_mk KX G ?a_plus ?l_plus ?c_plus ?k_plus (fun _ _ _ _ _ _ us hl => match us, hl with | [_, _], _ => rfl)) (QP.def_mk KX G ?a_less ?l_less ?c_less ?k_less (fun _ _ _ _ _ _ us hl => match us, hl with | [_], _ => rfl)) (QP.def_mk KX G ?a_minus ?l_minus ?c_minus ?k_minus (fun _ _ _ _ _ _ us hl => match us, hl with | [_, _], _ => rfl)) (QP.def_mk KX G ?a_times ?l_times ?c_times ?k_times (fun _ _ _ _ _ _ us hl => match us, hl with | [_, _], _ => rfl)) (QP.def_mk KX G ?a_over ?l_over ?c_over ?k_over (fun _ _ _ _ _ _ us hl => match us, hl with | [_, _], _ => rfl)) (QP.def_mk KX G ?a_total ?l_total ?c_total ?k_total (fun _ _ _ _ _ _ us hl => match us, hl with | [_], _ => rfl)) (QP.def_mk KX G ?a_is_proportion ?l_is_proportion ?c_is_proportion ?k_is_proportion (fun _ _ _ _ _ _ us hl => match us, hl with | [_], _ => rfl)) (QP.def_mk KX G ?a_is_room ?l_is_room ?c_is_room ?k_is_room (fun _ _ _ _ _ _ us hl => match us, hl with | [_, _], _ => rfl)) (QP.def_mk KX G ?a_joined_from ?l_joined_from ?c_joined_from ?k_joined_from (fun _ _ _ _ _ _ us hl => match us, hl with | [_, _], _ => rfl)) (QP.def_mk KX G ?a_hangs_together ?l_hangs_together ?c_hangs_together ?k_hangs_together (fun _ _ _ _ _ _ us hl => match us, hl with | [_, _], _ => rfl)) (QP.def_mk KX G ?a_good_plan ?l_good_plan ?c_good_plan ?k_good_plan (fun _ _ _ _ _ _ us hl => match us, hl with | [_], _ => rfl)) (QP.def_mk KX G ?a_need_plan ?l_need_plan ?c_need_plan ?k_need_plan (fun _ _ _ _ _ _ us hl => match us, hl with | [_], _ => rfl)) (QP.def_mk KX G ?a_solved ?l_solved ?c_solved ?k_solved (fun _ _ _ _ _ _ us hl => match us, hl with | [_], _ => rfl)) (QP.def_mk KX G ?a_pulls_of ?l_pulls_of ?c_pulls_of ?k_pulls_of (fun _ _ _ _ _ _ us hl => match us, hl with | [_, _, _], _ => rfl)) (QP.def_mk KX G ?a_levels_by ?l_levels_by ?c_levels_by ?k_levels_by (fun _ _ _ _ _ _ us hl => match us, hl with | [_, _, _, _], _ => rfl)) (QP.def_mk KX G ?a_levels_of ?l_levels_of ?c_levels_of ?k_levels_of (fun _ _ _ _ _ _ us hl => match us, hl with | [_], _ => rfl)) (QP.def_mk KX G ?a_widths_by ?l_widths_by ?c_widths_by ?k_widths_by (fun _ _ _ _ _ _ us hl => match us, hl with | [_, _], _ => rfl)) (QP.def_mk KX G ?a_hanging ?l_hanging ?c_hanging ?k_hanging (fun _ _ _ _ _ _ us hl => match us, hl with | [_, _, _], _ => rfl)) (QP.def_mk KX G ?a_hall_of ?l_hall_of ?c_hall_of ?k_hall_of (fun _ _ _ _ _ _ us hl => match us, hl with | [_], _ => rfl)) (QP.def_mk KX G ?a_with_room ?l_with_room ?c_with_room ?k_with_room (fun _ _ _ _ _ _ us hl => match us, hl with | [_, _], _ => rfl)) (QP.def_mk KX G ?a_need_number ?l_need_number ?c_need_number ?k_need_number (fun _ _ _ _ _ _ us hl => match us, hl with | [_, _], _ => rfl)) (QP.def_mk KX G ?a_without_room ?l_without_room ?c_without_room ?k_without_room (fun _ _ _ _ _ _ us hl => match us, hl with | [_, _], _ => rfl)) (QP.def_mk KX G ?a_wider ?l_wider ?c_wider ?k_wider (fun _ _ _ _ _ _ us hl => match us, hl with | [_, _, _], _ => rfl)) (QP.defNew_mk (h := h) ?aC_Hall_init ?mk_Hall_init ?kc_Hall_init ?fn_Hall_init ?a_Hall_init ?l_Hall_init ?c_Hall_init ?k_Hall_init (fun _ _ _ _ _ _ us hl => match us, hl with | [_, _], _ => rfl)) (QP.defMt_mk (h := h) ?aC_Hall_call ?fn_Hall_call ?a_Hall_call ?l_Hall_call ?c_Hall_call ?k_Hall_call (fun _ _ _ _ _ _ us hl => match us, hl with | [_, _, _], _ => rfl)) (QP.defMt_mk (h := h) ?aC_Hall_put ?fn_Hall_put ?a_Hall_put ?l_Hall_put ?c_Hall_put ?k_Hall_put (fun _ _ _ _ _ _ us hl => match us, hl with | [_, _], _ => rfl)) (QP.defMt_mk (h := h) ?aC_Hall_take ?fn_Hall_take ?a_Hall_take ?l_Hall_take ?c_Hall_take ?k_Hall_take (fun _ _ _ _ _ _ us hl => match us, hl with | [_, _], _ => rfl)) (QP.defMt_mk (h := h) ?aC_Hall_widen ?fn_Hall_widen ?a_Hall_widen ?l_Hall_widen ?c_Hall_widen ?k_Hall_widen (fun _ _ _ _ _ _ us hl => match us, hl with | [_, _, _], _ => rfl)) (QP.defMt_mk (h := h) ?aC_Hall_plan ?fn_Hall_plan ?a_Hall_plan ?l_Hall_plan ?c_Hall_plan ?k_Hall_plan (fun _ _ _ _ _ _ us hl => match us, hl with | [_], _ => rfl)) (QP.defMt_mk (h := h) ?aC_Hall_proportion ?fn_Hall_proportion ?a_Hall_proportion ?l_Hall_proportion ?c_Hall_proportion ?k_Hall_proportion (fun _ _ _ _ _ _ us hl => match us, hl with | [_], _ => rfl)) (QP.defMt_mk (h := h) ?aC_Hall_back ?fn_Hall_back ?a_Hall_back ?l_Hall_back ?c_Hall_back ?k_Hall_back (fun _ _ _ _ _ _ us hl => match us, hl with | [_], _ => rfl)) (QP.defMt_mk (h := h) ?aC_Hall_eq ?fn_Hall_eq ?a_Hall_eq ?l_Hall_eq ?c_Hall_eq ?k_Hall_eq (fun _ _ _ _ _ _ us hl => match us, hl with | [_, _], _ => rfl)) (QP.defMt_mk (h := h) ?aC_Hall_len ?fn_Hall_len ?a_Hall_len ?l_Hall_len ?c_Hall_len ?k_Hall_len (fun _ _ _ _ _ _ us hl => match us, hl with | [_], _ => rfl)) (QP.defMt_mk (h := h) ?aC_Hall_str ?fn_Hall_str ?a_Hall_str ?l_Hall_str ?c_Hall_str ?k_Hall_str (fun _ _ _ _ _ _ us hl => match us, hl with | [_], _ => rfl)) (QP.def_mk KX G ?a__law_same_truth ?l__law_same_truth ?c__law_same_truth ?k__law_same_truth (fun _ _ _ _ _ _ us hl => match us, hl with | [_, _], _ => rfl)) (QP.def_mk KX G ?a__law_which ?l__law_which ?c__law_which ?k__law_which (fun _ _ _ _ _ _ us hl => match us, hl with | [_], _ => rfl)) (QP.def_mk KX G ?a__law_ask ?l__law_ask ?c__law_ask ?k__law_ask (fun _ _ _ _ _ _ us hl => match us, hl with | [_, _, _, _], _ => rfl))
    (case a => k_is); (case l => k_is); (case c => k_is); (case k => k_is)
    (case z_len => k_is)
    (case z_abs => k_is)
    (case z_range => k_is)
    (case z_zip => k_is)
    (case z_enumerate => k_is)
    (case z_all => k_is)
    (case z_any => k_is)
    (case z_isinstance => k_is)
    (case z_tuple => k_is)
    (case z_list => k_is)
    (case z_int => k_is)
    (case z_str => k_is)
    (case z_bool => k_is)
    (case z_min => k_is)
    (case z_max => k_is)
    (case z_sum => k_is)
    (case z_sorted => k_is)
    (case z_set => k_is)
    (case z_ValueError => k_is)
    (case c_NOUGHT => k_is)
    (case d_NOUGHT => k_is)
    (case c_ONE => k_is)
    (case d_ONE => k_is)
    (case c_BEAMS => k_is)
    (case c_ROOMS => k_is)
    (case ea_NoPlan => k_is)
    (case ek_NoPlan => k_is)
    (case ee_NoPlan => k_exc)
    (case es_NoPlan => k_is)
    (case et_NoPlan => k_is)
    (case ea_NoProportion => k_is)
    (case ek_NoProportion => k_is)
    (case ee_NoProportion => k_exc)
    (case es_NoProportion => k_is)
    (case et_NoProportion => k_is)
    (case ea_NoRoom => k_is)
    (case ek_NoRoom => k_is)
    (case ee_NoRoom => k_exc)
    (case es_NoRoom => k_is)
    (case et_NoRoom => k_is)
    (case ea_Nothing => k_is)
    (case ek_Nothing => k_is)
    (case ee_Nothing => k_exc)
    (case es_Nothing => k_is)
    (case et_Nothing => k_is)
    (case ea_Parted => k_is)
    (case ek_Parted => k_is)
    (case ee_Parted => k_exc)
    (case es_Parted => k_is)
    (case et_Parted => k_is)
    (case na_RoomError => k_is)
    (case xa_NoPlan_RoomError => k_is)
    (case xb_NoPlan_RoomError => k_is)
    (case xe_NoPlan_RoomError => kts_exm)
    (case xa_NoProportion_RoomError => k_is)
    (case xb_NoProportion_RoomError => k_is)
    (case xe_NoProportion_RoomError => kts_exm)
    (case xa_NoRoom_RoomError => k_is)
    (case xb_NoRoom_RoomError => k_is)
    (case xe_NoRoom_RoomError => kts_exm)
    (case xa_Nothing_RoomError => k_is)
    (case xb_Nothing_RoomError => k_is)
    (case xe_Nothing_RoomError => kts_exm)
    (case xa_Parted_RoomError => k_is)
    (case xb_Parted_RoomError => k_is)
    (case xe_Parted_RoomError => kts_exm)
    (case wa_NoPlan => k_is)
    (case w1_NoPlan => k_is)
    (case w2_NoPlan => k_is)
    (case w3_NoPlan => k_is)
    (case w4_NoPlan => k_is)
    (case w5_NoPlan => k_is)
    (case w6_NoPlan => k_is)
    (case w7_NoPlan => k_is)
    (case w8_NoPlan => k_is)
    (case wv_NoPlan => kit_is)
    (case wa0_NoPlan => k_is); (case wk0_NoPlan => kit_is)
    (case wa1_NoPlan => k_is); (case wk1_NoPlan => kit_is)
    (case wa2_NoPlan => k_is); (case wk2_NoPlan => kit_is)
    (case wa3_NoPlan => k_is); (case wk3_NoPlan => kit_is)
    (case wa4_NoPlan => k_is); (case wk4_NoPlan => kit_is)
    (case wa5_NoPlan => k_is); (case wk5_NoPlan => kit_is)
    (case wa6_NoPlan => k_is); (case wk6_NoPlan => kit_is)
    (case wa7_NoPlan => k_is); (case wk7_NoPlan => kit_is)
    (case wa8_NoPlan => k_is); (case wk8_NoPlan => kit_is)
    (case wa9_NoPlan => k_is); (case wk9_NoPlan => kit_is)
    (case wa_NoRoom => k_is)
    (case w1_NoRoom => k_is)
    (case w2_NoRoom => k_is)
    (case w3_NoRoom => k_is)
    (case w4_NoRoom => k_is)
    (case w5_NoRoom => k_is)
    (case w6_NoRoom => k_is)
    (case w7_NoRoom => k_is)
    (case w8_NoRoom => k_is)
    (case wv_NoRoom => kit_is)
    (case wa0_NoRoom => k_is); (case wk0_NoRoom => kit_is)
    (case wa1_NoRoom => k_is); (case wk1_NoRoom => kit_is)
    (case wa2_NoRoom => k_is); (case wk2_NoRoom => kit_is)
    (case wa3_NoRoom => k_is); (case wk3_NoRoom => kit_is)
    (case wa4_NoRoom => k_is); (case wk4_NoRoom => kit_is)
    (case wa5_NoRoom => k_is); (case wk5_NoRoom => kit_is)
    (case wa6_NoRoom => k_is); (case wk6_NoRoom => kit_is)
    (case wa7_NoRoom => k_is); (case wk7_NoRoom => kit_is)
    (case wa8_NoRoom => k_is); (case wk8_NoRoom => kit_is)
    (case wa9_NoRoom => k_is); (case wk9_NoRoom => kit_is)
    (case wa_NoProportion => k_is)
    (case w1_NoProportion => k_is)
    (case w2_NoProportion => k_is)
    (case w3_NoProportion => k_is)
    (case w4_NoProportion => k_is)
    (case w5_NoProportion => k_is)
    (case w6_NoProportion => k_is)
    (case w7_NoProportion => k_is)
    (case w8_NoProportion => k_is)
    (case wv_NoProportion => kit_is)
    (case wa0_NoProportion => k_is); (case wk0_NoProportion => kit_is)
    (case wa1_NoProportion => k_is); (case wk1_NoProportion => kit_is)
    (case wa2_NoProportion => k_is); (case wk2_NoProportion => kit_is)
    (case wa3_NoProportion => k_is); (case wk3_NoProportion => kit_is)
    (case wa4_NoProportion => k_is); (case wk4_NoProportion => kit_is)
    (case wa5_NoProportion => k_is); (case wk5_NoProportion => kit_is)
    (case wa6_NoProportion => k_is); (case wk6_NoProportion => kit_is)
    (case wa7_NoProportion => k_is); (case wk7_NoProportion => kit_is)
    (case wa8_NoProportion => k_is); (case wk8_NoProportion => kit_is)
    (case wa9_NoProportion => k_is); (case wk9_NoProportion => kit_is)
    (case wa_Parted => k_is)
    (case w1_Parted => k_is)
    (case w2_Parted => k_is)
    (case w3_Parted => k_is)
    (case w4_Parted => k_is)
    (case w5_Parted => k_is)
    (case w6_Parted => k_is)
    (case w7_Parted => k_is)
    (case w8_Parted => k_is)
    (case wv_Parted => kit_is)
    (case wa0_Parted => k_is); (case wk0_Parted => kit_is)
    (case wa1_Parted => k_is); (case wk1_Parted => kit_is)
    (case wa2_Parted => k_is); (case wk2_Parted => kit_is)
    (case wa3_Parted => k_is); (case wk3_Parted => kit_is)
    (case wa4_Parted => k_is); (case wk4_Parted => kit_is)
    (case wa5_Parted => k_is); (case wk5_Parted => kit_is)
    (case wa6_Parted => k_is); (case wk6_Parted => kit_is)
    (case wa7_Parted => k_is); (case wk7_Parted => kit_is)
    (case wa8_Parted => k_is); (case wk8_Parted => kit_is)
    (case wa9_Parted => k_is); (case wk9_Parted => kit_is)
    (case wa_Nothing => k_is)
    (case w1_Nothing => k_is)
    (case w2_Nothing => k_is)
    (case w3_Nothing => k_is)
    (case w4_Nothing => k_is)
    (case w5_Nothing => k_is)
    (case w6_Nothing => k_is)
    (case w7_Nothing => k_is)
    (case w8_Nothing => k_is)
    (case wv_Nothing => kit_is)
    (case wa0_Nothing => k_is); (case wk0_Nothing => kit_is)
    (case wa1_Nothing => k_is); (case wk1_Nothing => kit_is)
    (case wa2_Nothing => k_is); (case wk2_Nothing => kit_is)
    (case wa3_Nothing => k_is); (case wk3_Nothing => kit_is)
    (case wa4_Nothing => k_is); (case wk4_Nothing => kit_is)
    (case wa5_Nothing => k_is); (case wk5_Nothing => kit_is)
    (case wa6_Nothing => k_is); (case wk6_Nothing => kit_is)
    (case wa7_Nothing => k_is); (case wk7_Nothing => kit_is)
    (case wa8_Nothing => k_is); (case wk8_Nothing => kit_is)
    (case wa9_Nothing => k_is); (case wk9_Nothing => kit_is)
    (case ha => k_is)
    (case h1 => k_is)
    (case h2 => k_is)
    (case h3 => k_is)
    (case h4 => k_is)
    (case h5 => k_is)
    (case h6 => k_is)
    (case h7 => k_is)
    (case h8 => k_is)
    (case h9 => k_is)
    (case h10 => k_is)
    (case h11 => k_is)
    (case h12 => kit_is)
    (case h13 => kit_is)
    (case h14 => k_is)
    (case a_is_any_whole => k_is); (case l_is_any_whole => k_is); (case c_is_any_whole => k_is); (case k_is_any_whole => k_is)
    (case a_is_whole => k_is); (case l_is_whole => k_is); (case c_is_whole => k_is); (case k_is_whole => k_is)
    (case a_common => k_is); (case l_common => k_is); (case c_common => k_is); (case k_common => k_is)
    (case a_made_of => k_is); (case l_made_of => k_is); (case c_made_of => k_is); (case k_made_of => k_is)
    (case a_is_fraction => k_is); (case l_is_fraction => k_is); (case c_is_fraction => k_is); (case k_is_fraction => k_is)
    (case a_plus => k_is); (case l_plus => k_is); (case c_plus => k_is); (case k_plus => k_is)
    (case a_less => k_is); (case l_less => k_is); (case c_less => k_is); (case k_less => k_is)
    (case a_minus => k_is); (case l_minus => k_is); (case c_minus => k_is); (case k_minus => k_is)
    (case a_times => k_is); (case l_times => k_is); (case c_times => k_is); (case k_times => k_is)
    (case a_over => k_is); (case l_over => k_is); (case c_over => k_is); (case k_over => k_is)
    (case a_total => k_is); (case l_total => k_is); (case c_total => k_is); (case k_total => k_is)
    (case a_is_proportion => k_is); (case l_is_proportion => k_is); (case c_is_proportion => k_is); (case k_is_proportion => k_is)
    (case a_is_room => k_is); (case l_is_room => k_is); (case c_is_room => k_is); (case k_is_room => k_is)
    (case a_joined_from => k_is); (case l_joined_from => k_is); (case c_joined_from => k_is); (case k_joined_from => k_is)
    (case a_hangs_together => k_is); (case l_hangs_together => k_is); (case c_hangs_together => k_is); (case k_hangs_together => k_is)
    (case a_good_plan => k_is); (case l_good_plan => k_is); (case c_good_plan => k_is); (case k_good_plan => k_is)
    (case a_need_plan => k_is); (case l_need_plan => k_is); (case c_need_plan => k_is); (case k_need_plan => k_is)
    (case a_solved => k_is); (case l_solved => k_is); (case c_solved => k_is); (case k_solved => k_is)
    (case a_pulls_of => k_is); (case l_pulls_of => k_is); (case c_pulls_of => k_is); (case k_pulls_of => k_is)
    (case a_levels_by => k_is); (case l_levels_by => k_is); (case c_levels_by => k_is); (case k_levels_by => k_is)
    (case a_levels_of => k_is); (case l_levels_of => k_is); (case c_levels_of => k_is); (case k_levels_of => k_is)
    (case a_widths_by => k_is); (case l_widths_by => k_is); (case c_widths_by => k_is); (case k_widths_by => k_is)
    (case a_hanging => k_is); (case l_hanging => k_is); (case c_hanging => k_is); (case k_hanging => k_is)
    (case a_hall_of => k_is); (case l_hall_of => k_is); (case c_hall_of => k_is); (case k_hall_of => k_is)
    (case a_with_room => k_is); (case l_with_room => k_is); (case c_with_room => k_is); (case k_with_room => k_is)
    (case a_need_number => k_is); (case l_need_number => k_is); (case c_need_number => k_is); (case k_need_number => k_is)
    (case a_without_room => k_is); (case l_without_room => k_is); (case c_without_room => k_is); (case k_without_room => k_is)
    (case a_wider => k_is); (case l_wider => k_is); (case c_wider => k_is); (case k_wider => k_is)
    (case aC_Hall_init => k_is); (case a_Hall_init => k_is); (case mk_Hall_init => k_is); (case kc_Hall_init => k_is); (case fn_Hall_init => k_is); (case l_Hall_init => k_is); (case c_Hall_init => k_is); (case k_Hall_init => k_is)
    (case aC_Hall_call => k_is); (case a_Hall_call => k_is); (case fn_Hall_call => k_is); (case l_Hall_call => k_is); (case c_Hall_call => k_is); (case k_Hall_call => k_is)
    (case aC_Hall_put => k_is); (case a_Hall_put => k_is); (case fn_Hall_put => k_is); (case l_Hall_put => k_is); (case c_Hall_put => k_is); (case k_Hall_put => k_is)
    (case aC_Hall_take => k_is); (case a_Hall_take => k_is); (case fn_Hall_take => k_is); (case l_Hall_take => k_is); (case c_Hall_take => k_is); (case k_Hall_take => k_is)
    (case aC_Hall_widen => k_is); (case a_Hall_widen => k_is); (case fn_Hall_widen => k_is); (case l_Hall_widen => k_is); (case c_Hall_widen => k_is); (case k_Hall_widen => k_is)
    (case aC_Hall_plan => k_is); (case a_Hall_plan => k_is); (case fn_Hall_plan => k_is); (case l_Hall_plan => k_is); (case c_Hall_plan => k_is); (case k_Hall_plan => k_is)
    (case aC_Hall_proportion => k_is); (case a_Hall_proportion => k_is); (case fn_Hall_proportion => k_is); (case l_Hall_proportion => k_is); (case c_Hall_proportion => k_is); (case k_Hall_proportion => k_is)
    (case aC_Hall_back => k_is); (case a_Hall_back => k_is); (case fn_Hall_back => k_is); (case l_Hall_back => k_is); (case c_Hall_back => k_is); (case k_Hall_back => k_is)
    (case aC_Hall_eq => k_is); (case a_Hall_eq => k_is); (case fn_Hall_eq => k_is); (case l_Hall_eq => k_is); (case c_Hall_eq => k_is); (case k_Hall_eq => k_is)
    (case aC_Hall_len => k_is); (case a_Hall_len => k_is); (case fn_Hall_len => k_is); (case l_Hall_len => k_is); (case c_Hall_len => k_is); (case k_Hall_len => k_is)
    (case aC_Hall_str => k_is); (case a_Hall_str => k_is); (case fn_Hall_str => k_is); (case l_Hall_str => k_is); (case c_Hall_str => k_is); (case k_Hall_str => k_is)
    (case a__law_same_truth => k_is); (case l__law_same_truth => k_is); (case c__law_same_truth => k_is); (case k__law_same_truth => k_is)
    (case a__law_which => k_is); (case l__law_which => k_is); (case c__law_which => k_is); (case k__law_which => k_is)
    (case a__law_ask => k_is); (case l__law_ask => k_is); (case c__law_ask => k_is); (case k__law_ask => k_is)
