import PyProof.Rows.All
import Wide.All
import OpenK.AllK
import Wide.FinOn
import HandS.ForMost
import HandS.TupAny
import HandS.TupMul
import HandS.Deep
import HandS.Flow
import HandS.Style
import PyProof.ListMulRoad
import PyProof.FactsAll.tuple_2
import HandS.IsInst
import HandS.Star
import HandS.Dict
import HandS.Wide
import HandS.WideBits
import PyProof.SumWalkG
import PyProof.Rows.SumAny
import PyProof.ListOps
import PyProof.CallFns
import HandS.DictComp
import HandS.Conv
import HandS.Sort
import HandS.EndBits
import OpenK.KWalk
import PySem.Challenge.RW_looksay_k48_across_elders_and_rows_that
set_option Elab.async false
set_option linter.all false
set_option maxRecDepth 100000
set_option autoImplicit false

namespace LD
open PySem PySem.Spec L2

/-- plain data, as one sees it -/
inductive D where
  | non | bl (b : Bool) | int (i : Int) | str (x : Str)
  | lst (xs : List D) | tup (xs : List D) | scr (xs : List D)
  | dct (kvs : List (Key × D)) | dctT (kvs : List (List Key × D))
  | drw (Φ : Addr → Addr → Heap → Prop) | ins (C : Addr) (fs : List (Str × D))

mutual
inductive Rep (K : PySem.W.Frag) (G : Hp) : V → D → Prop
  | non : Rep K G .non .non
  | bl (b : Bool) : Rep K G (.bl b) (.bl b)
  | int (i : Int) : Rep K G (.int i) (.int i)
  | str (x : Str) : Rep K G (.str x) (.str x)
  | lst {a : Addr} {xs : List V} {ds : List D} : G a = some (.lst xs) → RepL K G xs ds → Rep K G (.ref a) (.lst ds)
  | scr {a : Addr} {xs : List V} {ds : List D} : SqL K G a xs → RepL K G xs ds → Rep K G (.ref a) (.scr ds)
  | tup {a : Addr} {xs : List V} {ds : List D} : SqT K G a xs → RepL K G xs ds → Rep K G (.ref a) (.tup ds)
  | dct {a : Addr} {kvs : List (Key × V)} {ds : List (Key × D)} : G a = some (.dK kvs) → RepK K G kvs ds → Rep K G (.ref a) (.dct ds)
  | dctT {a : Addr} {kvs : List (List Key × V)} {ds : List (List Key × D)} : G a = some (.dT kvs) → RepT K G kvs ds → Rep K G (.ref a) (.dctT ds)
  | drw {a c : Addr} {cs : List Int} {Φ : Addr → Addr → Heap → Prop} : G a = some (.ext (Φ c a)) → G c = some (.lst (cs.map V.int)) → cs.length ≤ 64 → Rep K G (.ref a) (.drw Φ)
inductive RepL (K : PySem.W.Frag) (G : Hp) : List V → List D → Prop
  | nil : RepL K G [] []
  | cons {v : V} {vs : List V} {d : D} {ds : List D} : Rep K G v d → RepL K G vs ds → RepL K G (v :: vs) (d :: ds)
inductive RepK (K : PySem.W.Frag) (G : Hp) : List (Key × V) → List (Key × D) → Prop
  | nil : RepK K G [] []
  | cons {k : Key} {v : V} {vs : List (Key × V)} {d : D} {ds : List (Key × D)} : Rep K G v d → RepK K G vs ds → RepK K G ((k, v) :: vs) ((k, d) :: ds)
inductive RepT (K : PySem.W.Frag) (G : Hp) : List (List Key × V) → List (List Key × D) → Prop
  | nil : RepT K G [] []
  | cons {k : List Key} {v : V} {vs : List (List Key × V)} {d : D} {ds : List (List Key × D)} : Rep K G v d → RepT K G vs ds → RepT K G ((k, v) :: vs) ((k, d) :: ds)
end

theorem Same.tseq {K : PySem.W.Frag} {H H' : Hp} {a : Addr} {xs : List V} (e : Same H H') (h : SqT K H a xs) : SqT K H' a xs := by
  rcases h with (h | ⟨o, h⟩) | h
  · exact .inl (.inl (e _ _ h))
  · exact .inl (.inr ⟨o, e _ _ h⟩)
  · exact .inr h

mutual
theorem Rep.same {K : PySem.W.Frag} {G G' : Hp} (s : Same G G') : ∀ {v : V} {d : D}, Rep K G v d → Rep K G' v d
  | _, _, .non => .non
  | _, _, .bl b => .bl b
  | _, _, .int i => .int i
  | _, _, .str x => .str x
  | _, _, .lst h r => .lst (s _ _ h) (RepL.same s r)
  | _, _, .scr h r => .scr (s.seq h) (RepL.same s r)
  | _, _, .tup h r => .tup (Same.tseq s h) (RepL.same s r)
  | _, _, .dct h r => .dct (s _ _ h) (RepK.same s r)
  | _, _, .dctT h r => .dctT (s _ _ h) (RepT.same s r)
  | _, _, .drw h g l => .drw (s _ _ h) (s _ _ g) l
theorem RepL.same {K : PySem.W.Frag} {G G' : Hp} (s : Same G G') : ∀ {v : List V} {d : List D}, RepL K G v d → RepL K G' v d
  | _, _, .nil => .nil
  | _, _, .cons h r => .cons (Rep.same s h) (RepL.same s r)
theorem RepK.same {K : PySem.W.Frag} {G G' : Hp} (s : Same G G') : ∀ {v : List (Key × V)} {d : List (Key × D)}, RepK K G v d → RepK K G' v d
  | _, _, .nil => .nil
  | _, _, .cons h r => .cons (Rep.same s h) (RepK.same s r)
theorem RepT.same {K : PySem.W.Frag} {G G' : Hp} (s : Same G G') : ∀ {v : List (List Key × V)} {d : List (List Key × D)}, RepT K G v d → RepT K G' v d
  | _, _, .nil => .nil
  | _, _, .cons h r => .cons (Rep.same s h) (RepT.same s r)
end

theorem RepL.length {K : PySem.W.Frag} {G : Hp} : ∀ {v : List V} {d : List D}, RepL K G v d → v.length = d.length
  | _, _, .nil => rfl
  | _, _, .cons _ r => by simp [RepL.length r]
theorem RepL.get {K : PySem.W.Frag} {G : Hp} : ∀ {vs : List V} {ds : List D} {i : Nat} {d : D}, RepL K G vs ds → ds[i]? = some d → ∃ v, vs[i]? = some v ∧ Rep K G v d
  | _, _, _, _, .nil, e => by simp at e
  | _, _, 0, _, .cons h _, e => by simp at e; subst e; exact ⟨_, rfl, h⟩
  | _, _, i + 1, _, .cons _ r, e => by
    obtain ⟨v, h1, h2⟩ := RepL.get (i := i) r (by simpa using e)
    exact ⟨v, by simpa using h1, h2⟩
theorem RepL.get' {K : PySem.W.Frag} {G : Hp} : ∀ {vs : List V} {ds : List D} {i : Nat} {v : V}, RepL K G vs ds → vs[i]? = some v → ∃ d, ds[i]? = some d ∧ Rep K G v d
  | _, _, _, _, .nil, e => by simp at e
  | _, _, 0, _, .cons h _, e => by simp at e; subst e; exact ⟨_, rfl, h⟩
  | _, _, i + 1, _, .cons _ r, e => by
    obtain ⟨v, h1, h2⟩ := RepL.get' (i := i) r (by simpa using e)
    exact ⟨v, by simpa using h1, h2⟩
theorem RepL.append {K : PySem.W.Frag} {G : Hp} : ∀ {vs us : List V} {ds es : List D}, RepL K G vs ds → RepL K G us es → RepL K G (vs ++ us) (ds ++ es)
  | _, _, _, _, .nil, s => s
  | _, _, _, _, .cons h r, s => .cons h (RepL.append r s)
theorem RepL.one {K : PySem.W.Frag} {G : Hp} {v : V} {d : D} (h : Rep K G v d) : RepL K G [v] [d] := .cons h .nil
theorem RepL.set {K : PySem.W.Frag} {G : Hp} {v : V} {d : D} (h : Rep K G v d) : ∀ {vs : List V} {ds : List D} (i : Nat), RepL K G vs ds → RepL K G (vs.set i v) (ds.set i d)
  | _, _, _, .nil => .nil
  | _, _, 0, .cons _ r => .cons h r
  | _, _, i + 1, .cons q r => .cons q (RepL.set h i r)
theorem RepL.take {K : PySem.W.Frag} {G : Hp} : ∀ {vs : List V} {ds : List D} (i : Nat), RepL K G vs ds → RepL K G (vs.take i) (ds.take i)
  | _, _, 0, _ => .nil
  | _, _, _ + 1, .nil => .nil
  | _, _, i + 1, .cons q r => .cons q (RepL.take i r)
theorem RepL.drop {K : PySem.W.Frag} {G : Hp} : ∀ {vs : List V} {ds : List D} (i : Nat), RepL K G vs ds → RepL K G (vs.drop i) (ds.drop i)
  | _, _, 0, r => r
  | _, _, _ + 1, .nil => .nil
  | _, _, i + 1, .cons _ r => RepL.drop i r
theorem RepL.dropLast {K : PySem.W.Frag} {G : Hp} {vs : List V} {ds : List D} (h : RepL K G vs ds) : RepL K G vs.dropLast ds.dropLast := by
  rw [List.dropLast_eq_take, List.dropLast_eq_take, h.length]; exact h.take _
theorem RepL.reverse {K : PySem.W.Frag} {G : Hp} : ∀ {vs : List V} {ds : List D}, RepL K G vs ds → RepL K G vs.reverse ds.reverse
  | _, _, .nil => .nil
  | _, _, .cons h r => by
    rw [List.reverse_cons, List.reverse_cons]; exact (RepL.reverse r).append (.one h)
theorem RepL.rep {K : PySem.W.Frag} {G : Hp} {vs : List V} {ds : List D} (h : RepL K G vs ds) : ∀ k : Nat, RepL K G (List.replicate k vs).flatten (List.replicate k ds).flatten
  | 0 => .nil
  | k + 1 => by
    rw [List.replicate_succ, List.replicate_succ, List.flatten_cons, List.flatten_cons]; exact h.append (RepL.rep h k)
theorem RepL.ints {K : PySem.W.Frag} {G : Hp} : ∀ {vs : List V} {ns : List Int}, RepL K G vs (ns.map D.int) → vs = ns.map V.int
  | _, [], .nil => rfl
  | _, n :: ns, .cons h r => by cases h; rw [RepL.ints r]; rfl
theorem RepL.of_ints {K : PySem.W.Frag} {G : Hp} : ∀ (ns : List Int), RepL K G (ns.map V.int) (ns.map D.int)
  | [] => .nil
  | n :: ns => .cons (.int n) (RepL.of_ints ns)
theorem RepL.strs {K : PySem.W.Frag} {G : Hp} : ∀ {vs : List V} {ns : List Str}, RepL K G vs (ns.map D.str) → vs = ns.map V.str
  | _, [], .nil => rfl
  | _, n :: ns, .cons h r => by cases h; rw [RepL.strs r]; rfl
theorem RepL.of_strs {K : PySem.W.Frag} {G : Hp} : ∀ (ns : List Str), RepL K G (ns.map V.str) (ns.map D.str)
  | [] => .nil
  | n :: ns => .cons (.str n) (RepL.of_strs ns)
theorem RepL.bls {K : PySem.W.Frag} {G : Hp} : ∀ {vs : List V} {ns : List Bool}, RepL K G vs (ns.map D.bl) → vs = ns.map V.bl
  | _, [], .nil => rfl
  | _, n :: ns, .cons h r => by cases h; rw [RepL.bls r]; rfl

/-! ### G: what stands for good; H: all that is tracked -/
structure Ext (G H G' H' : Hp) : Prop where
  hh : Same H H'
  gg : Same G G'
  gh : Same G' H'
  new : ∀ a o, G' a = some o → G a = some o ∨ H a = none
theorem Ext.refl {G H : Hp} (s : Same G H) : Ext G H G H := ⟨.refl _, .refl _, s, fun _ _ e => .inl e⟩
theorem Ext.trans {G0 H0 G H G' H' : Hp} (a : Ext G0 H0 G H) (b : Ext G H G' H') : Ext G0 H0 G' H' :=
  ⟨a.hh.trans b.hh, a.gg.trans b.gg, b.gh, fun x o e => by
    rcases b.new x o e with h | h
    · exact a.new x o h
    · exact .inr (a.hh.free h)⟩
/-- a new object that stands for good -/
theorem Ext.fresh {G H : Hp} {p : Addr} {o : HO} (s : Same G H) (h : H p = none) : Ext G H (upd G p o) (upd H p o) := by
  have hg : G p = none := s.free h
  refine ⟨fun a u e => ?_, fun a u e => ?_, fun a u e => ?_, fun a u e => ?_⟩
  · rw [upd_ne (ne_of_none e h)]; exact e
  · rw [upd_ne (ne_of_none e hg)]; exact e
  · by_cases q : a = p
    · subst q; rw [upd_same] at e ⊢; exact e
    · rw [upd_ne q] at e ⊢; exact s _ _ e
  · by_cases q : a = p
    · subst q; exact .inr h
    · rw [upd_ne q] at e; exact .inl e
/-- a new object that is not -/
theorem Ext.loose {G H : Hp} {p : Addr} {o : HO} (s : Same G H) (h : H p = none) : Ext G H G (upd H p o) := by
  refine ⟨fun a u e => ?_, .refl _, fun a u e => ?_, fun a u e => .inl e⟩
  · rw [upd_ne (ne_of_none e h)]; exact e
  · rw [upd_ne (ne_of_none (s _ _ e) h)]; exact s _ _ e

/-- the contents of a list, a dict of one's own -/
def OwnAt (K : PySem.W.Frag) (G H : Hp) (p : Addr) : D → Prop
  | .lst ds => ∃ xs, H p = some (.lst xs) ∧ RepL K G xs ds
  | .dct ds => ∃ kvs, H p = some (.dK kvs) ∧ RepK K G kvs ds
  | .dctT ds => ∃ kvs, H p = some (.dT kvs) ∧ RepT K G kvs ds
  | _ => False
theorem OwnAt.ext {K : PySem.W.Frag} {G H G' H' : Hp} {p : Addr} : ∀ {d : D}, OwnAt K G H p d → Ext G H G' H' → OwnAt K G' H' p d
  | .lst _, ⟨xs, h, r⟩, e => ⟨xs, e.hh _ _ h, r.same e.gg⟩
  | .dct _, ⟨xs, h, r⟩, e => ⟨xs, e.hh _ _ h, r.same e.gg⟩
  | .dctT _, ⟨xs, h, r⟩, e => ⟨xs, e.hh _ _ h, r.same e.gg⟩
theorem OwnAt.some {K : PySem.W.Frag} {G H : Hp} {p : Addr} : ∀ {d : D}, OwnAt K G H p d → ∃ o, H p = some o
  | .lst _, ⟨_, h, _⟩ => ⟨_, h⟩
  | .dct _, ⟨_, h, _⟩ => ⟨_, h⟩
  | .dctT _, ⟨_, h, _⟩ => ⟨_, h⟩
theorem OwnAt.rep {K : PySem.W.Frag} {G H : Hp} (s : Same G H) {p : Addr} : ∀ {d : D}, OwnAt K G H p d → Rep K H (.ref p) d
  | .lst _, ⟨_, h, r⟩ => .lst h (r.same s)
  | .dct _, ⟨_, h, r⟩ => .dct h (r.same s)
  | .dctT _, ⟨_, h, r⟩ => .dctT h (r.same s)

inductive Sl where
  | no | dat (d : D) | own (d : D)
abbrev SD := List Sl

structure Rel (K : PySem.W.Frag) (G0 H0 G H : Hp) (σ : L2.St) (sd : List Sl) : Prop where
  ext : Ext G0 H0 G H
  len : sd.length = σ.length
  dat : ∀ (i : Nat) (d : D), sd[i]? = some (Sl.dat d) → ∃ v, σ[i]? = some (some v) ∧ Rep K G v d
  own : ∀ (i : Nat) (d : D), sd[i]? = some (Sl.own d) → ∃ p, σ[i]? = some (some (V.ref p)) ∧ OwnAt K G H p d ∧ G p = none ∧ H0 p = none
  sep : ∀ (i j : Nat) (d e : D) (p : Addr), sd[i]? = some (Sl.own d) → sd[j]? = some (Sl.own e) → σ[i]? = some (some (V.ref p)) → σ[j]? = some (some (V.ref p)) → i = j
section
variable {K : PySem.W.Frag} {G0 H0 G H G' H' : Hp} {σ : L2.St} {sd : List Sl}
theorem Rel.same (r : Rel K G0 H0 G H σ sd) : Same G H := r.ext.gh
theorem Rel.to (r : Rel K G0 H0 G H σ sd) (e : Ext G H G' H') : Rel K G0 H0 G' H' σ sd := by
  refine ⟨r.ext.trans e, r.len, fun i d h => ?_, fun i d h => ?_, r.sep⟩
  · obtain ⟨v, h1, h2⟩ := r.dat i d h
    exact ⟨v, h1, h2.same e.gg⟩
  · obtain ⟨p, h1, h2, h3, h4⟩ := r.own i d h
    refine ⟨p, h1, h2.ext e, ?_, h4⟩
    obtain ⟨o, ho⟩ := h2.some
    cases q : G' p with
    | none => rfl
    | some u =>
      rcases e.new p u q with z | z
      · rw [h3] at z; cases z
      · rw [ho] at z; cases z
/-- a slot is set to data -/
theorem Rel.setDat (r : Rel K G0 H0 G H σ sd) {v : V} {d : D} (h : Rep K G v d) (i : Nat) : Rel K G0 H0 G H (σ.set i (some v)) (sd.set i (.dat d)) := by
  refine ⟨r.ext, by simp [r.len], fun j e hj => ?_, fun j e hj => ?_, fun j k d1 d2 p hj hk e1 e2 => ?_⟩
  · by_cases q : j = i
    · subst q
      have hl : j < sd.length := by
        have := (List.getElem?_eq_some_iff.mp hj).1
        simpa using this
      rw [List.getElem?_set_self hl] at hj
      cases hj
      exact ⟨v, by rw [List.getElem?_set_self (by rw [← r.len]; exact hl)], h⟩
    · rw [List.getElem?_set_ne (Ne.symm q)] at hj ⊢
      exact r.dat j e hj
  · by_cases q : j = i
    · subst q
      have hl : j < sd.length := by
        have := (List.getElem?_eq_some_iff.mp hj).1
        simpa using this
      rw [List.getElem?_set_self hl] at hj
      cases hj
    · rw [List.getElem?_set_ne (Ne.symm q)] at hj ⊢
      exact r.own j e hj
  · have f : ∀ (j : Nat) (d1 : D), (sd.set i (.dat d))[j]? = some (Sl.own d1) → j ≠ i := fun j d1 hj q => by
      subst q
      have hl : j < sd.length := by
        have := (List.getElem?_eq_some_iff.mp hj).1
        simpa using this
      rw [List.getElem?_set_self hl] at hj
      cases hj
    have q1 := f j d1 hj
    have q2 := f k d2 hk
    rw [List.getElem?_set_ne (Ne.symm q1)] at hj e1
    rw [List.getElem?_set_ne (Ne.symm q2)] at hk e2
    exact r.sep j k d1 d2 p hj hk e1 e2
/-- a slot is set to a new object of one's own -/
theorem Rel.setOwn (r : Rel K G0 H0 G H σ sd) {p : Addr} {d : D} (e : Ext G H G' H') (h : OwnAt K G' H' p d) (hn : H p = none) (hg : G' p = none) (i : Nat) : Rel K G0 H0 G' H' (σ.set i (some (.ref p))) (sd.set i (.own d)) := by
  have r' := r.to e
  have hneq : ∀ (j : Nat) (d1 : D), sd[j]? = some (Sl.own d1) → σ[j]? ≠ some (some (V.ref p)) := fun j d1 hj z => by
    obtain ⟨p', h1, h2, _⟩ := r.own j d1 hj
    rw [h1] at z
    cases z
    obtain ⟨o, ho⟩ := h2.some
    rw [hn] at ho; cases ho
  refine ⟨r'.ext, by simp [r.len], fun j e hj => ?_, fun j e' hj => ?_, fun j k d1 d2 p' hj hk e1 e2 => ?_⟩
  · by_cases q : j = i
    · subst q
      have hl : j < sd.length := by
        have := (List.getElem?_eq_some_iff.mp hj).1
        simpa using this
      rw [List.getElem?_set_self hl] at hj
      cases hj
    · rw [List.getElem?_set_ne (Ne.symm q)] at hj ⊢
      exact r'.dat j e hj
  · by_cases q : j = i
    · subst q
      have hl : j < sd.length := by
        have := (List.getElem?_eq_some_iff.mp hj).1
        simpa using this
      rw [List.getElem?_set_self hl] at hj
      cases hj
      exact ⟨p, by rw [List.getElem?_set_self (by rw [← r.len]; exact hl)], h, hg, r.ext.hh.free hn⟩
    · rw [List.getElem?_set_ne (Ne.symm q)] at hj ⊢
      exact r'.own j e' hj
  · by_cases q1 : j = i
    · by_cases q2 : k = i
      · rw [q1, q2]
      · exfalso
        rw [List.getElem?_set_ne (Ne.symm q2)] at hk e2
        subst q1
        have hl : j < sd.length := by
          have := (List.getElem?_eq_some_iff.mp hj).1
          simpa using this
        rw [List.getElem?_set_self (by rw [← r.len]; exact hl)] at e1
        cases e1
        exact hneq k d2 hk e2
    · by_cases q2 : k = i
      · exfalso
        rw [List.getElem?_set_ne (Ne.symm q1)] at hj e1
        subst q2
        have hl : k < sd.length := by
          have := (List.getElem?_eq_some_iff.mp hk).1
          simpa using this
        rw [List.getElem?_set_self (by rw [← r.len]; exact hl)] at e2
        cases e2
        exact hneq j d1 hj e1
      · rw [List.getElem?_set_ne (Ne.symm q1)] at hj e1
        rw [List.getElem?_set_ne (Ne.symm q2)] at hk e2
        exact r.sep j k d1 d2 p' hj hk e1 e2
/-- the object of one's own at slot i is written -/
theorem Rel.write (r : Rel K G0 H0 G H σ sd) {i : Nat} {p : Addr} {d d' : D} {o : HO} (hi : sd[i]? = some (Sl.own d)) (hp : σ[i]? = some (some (V.ref p))) (h : OwnAt K G (upd H p o) p d') :
    Rel K G0 H0 G (upd H p o) σ (sd.set i (.own d')) := by
  obtain ⟨p', h1, h2, h3, h4⟩ := r.own i d hi
  rw [hp] at h1
  cases h1
  have hl : i < sd.length := (List.getElem?_eq_some_iff.mp hi).1
  have gne : ∀ a u, G a = some u → a ≠ p := fun a u e z => by subst z; rw [h3] at e; cases e
  refine ⟨⟨fun a u e => ?_, r.ext.gg, fun a u e => ?_, r.ext.new⟩, by simp [r.len], fun j e hj => ?_, fun j e hj => ?_, fun j k d1 d2 p' hj hk e1 e2 => ?_⟩
  · rw [upd_ne (fun z => by subst z; rw [h4] at e; cases e)]; exact r.ext.hh _ _ e
  · rw [upd_ne (gne a u e)]; exact r.same _ _ e
  · by_cases q : j = i
    · subst q
      rw [List.getElem?_set_self hl] at hj
      cases hj
    · rw [List.getElem?_set_ne (Ne.symm q)] at hj
      exact r.dat j e hj
  · by_cases q : j = i
    · subst q
      rw [List.getElem?_set_self hl] at hj
      cases hj
      exact ⟨p, hp, h, h3, h4⟩
    · rw [List.getElem?_set_ne (Ne.symm q)] at hj
      obtain ⟨p', g1, g2, g3, g4⟩ := r.own j e hj
      have hne : p' ≠ p := fun z => by subst z; exact q (r.sep j i e d p' hj hi g1 hp)
      refine ⟨p', g1, ?_, g3, g4⟩
      cases e with
      | lst ds => obtain ⟨xs, a, b⟩ := g2; exact ⟨xs, by rw [upd_ne hne]; exact a, b⟩
      | dct ds => obtain ⟨xs, a, b⟩ := g2; exact ⟨xs, by rw [upd_ne hne]; exact a, b⟩
      | dctT ds => obtain ⟨xs, a, b⟩ := g2; exact ⟨xs, by rw [upd_ne hne]; exact a, b⟩
      | _ => exact g2.elim
  · have f : ∀ (j : Nat) (d1 : D), (sd.set i (.own d'))[j]? = some (Sl.own d1) → ∃ d2, sd[j]? = some (Sl.own d2) := fun j d1 hj => by
      by_cases q : j = i
      · subst q; exact ⟨d, hi⟩
      · rw [List.getElem?_set_ne (Ne.symm q)] at hj; exact ⟨_, hj⟩
    obtain ⟨_, f1⟩ := f j d1 hj
    obtain ⟨_, f2⟩ := f k d2 hk
    exact r.sep j k _ _ p' f1 f2 e1 e2
/-- the object of one's own at slot i stands for good from now on -/
theorem Rel.freeze (r : Rel K G0 H0 G H σ sd) {i : Nat} {d : D} (hi : sd[i]? = some (Sl.own d)) : ∃ G', Same G G' ∧ Rel K G0 H0 G' H σ (sd.set i (.dat d)) := by
  obtain ⟨p, h1, h2, h3, h4⟩ := r.own i d hi
  obtain ⟨o, ho⟩ := h2.some
  have hl : i < sd.length := (List.getElem?_eq_some_iff.mp hi).1
  have sg : Same G (upd G p o) := fun a u e => by
    rw [upd_ne (ne_of_none e h3)]; exact e
  have sh : Same (upd G p o) H := fun a u e => by
    by_cases q : a = p
    · subst q; rw [upd_same] at e; cases e; exact ho
    · rw [upd_ne q] at e; exact r.same _ _ e
  refine ⟨upd G p o, sg, ⟨r.ext.hh, r.ext.gg.trans sg, sh, fun a u e => ?_⟩, by simp [r.len], fun j e hj => ?_, fun j e hj => ?_, fun j k d1 d2 p' hj hk e1 e2 => ?_⟩
  · by_cases q : a = p
    · subst q; exact .inr h4
    · rw [upd_ne q] at e; exact r.ext.new _ _ e
  · by_cases q : j = i
    · subst q
      rw [List.getElem?_set_self hl] at hj
      cases hj
      refine ⟨_, h1, ?_⟩
      cases d with
      | lst ds => obtain ⟨xs, a, b⟩ := h2; rw [ho] at a; cases a; exact .lst upd_same (b.same sg)
      | dct ds => obtain ⟨xs, a, b⟩ := h2; rw [ho] at a; cases a; exact .dct upd_same (b.same sg)
      | dctT ds => obtain ⟨xs, a, b⟩ := h2; rw [ho] at a; cases a; exact .dctT upd_same (b.same sg)
      | _ => exact h2.elim
    · rw [List.getElem?_set_ne (Ne.symm q)] at hj
      obtain ⟨v, a, b⟩ := r.dat j e hj
      exact ⟨v, a, b.same sg⟩
  · by_cases q : j = i
    · subst q
      rw [List.getElem?_set_self hl] at hj
      cases hj
    · rw [List.getElem?_set_ne (Ne.symm q)] at hj
      obtain ⟨p', g1, g2, g3, g4⟩ := r.own j e hj
      have hne : p' ≠ p := fun z => by subst z; exact q (r.sep j i e d p' hj hi g1 h1)
      refine ⟨p', g1, ?_, by rw [upd_ne hne]; exact g3, g4⟩
      cases e with
      | lst ds => obtain ⟨xs, a, b⟩ := g2; exact ⟨xs, a, b.same sg⟩
      | dct ds => obtain ⟨xs, a, b⟩ := g2; exact ⟨xs, a, b.same sg⟩
      | dctT ds => obtain ⟨xs, a, b⟩ := g2; exact ⟨xs, a, b.same sg⟩
      | _ => exact g2.elim
  · have f : ∀ (j : Nat) (d1 : D), (sd.set i (.dat d))[j]? = some (Sl.own d1) → sd[j]? = some (Sl.own d1) := fun j d1 hj => by
      by_cases q : j = i
      · subst q
        rw [List.getElem?_set_self hl] at hj
        cases hj
      · rw [List.getElem?_set_ne (Ne.symm q)] at hj; exact hj
    exact r.sep j k d1 d2 p' (f j d1 hj) (f k d2 hk) e1 e2
/-- a slot is forgotten (its value too) -/
theorem Rel.setNo (r : Rel K G0 H0 G H σ sd) (i : Nat) (o : Option V) : Rel K G0 H0 G H (σ.set i o) (sd.set i .no) := by
  have f : ∀ (j : Nat) (x : Sl), (sd.set i .no)[j]? = some x → x ≠ .no → j ≠ i ∧ sd[j]? = some x := fun j x hj hx => by
    by_cases q : j = i
    · subst q
      have hl : j < sd.length := by
        have := (List.getElem?_eq_some_iff.mp hj).1
        simpa using this
      rw [List.getElem?_set_self hl] at hj
      cases hj; exact absurd rfl hx
    · rw [List.getElem?_set_ne (Ne.symm q)] at hj; exact ⟨q, hj⟩
  refine ⟨r.ext, by simp [r.len], fun j e hj => ?_, fun j e hj => ?_, fun j k d1 d2 p' hj hk e1 e2 => ?_⟩
  · obtain ⟨q, hj⟩ := f _ _ hj (by intro z; cases z)
    rw [List.getElem?_set_ne (Ne.symm q)]; exact r.dat j e hj
  · obtain ⟨q, hj⟩ := f _ _ hj (by intro z; cases z)
    rw [List.getElem?_set_ne (Ne.symm q)]; exact r.own j e hj
  · obtain ⟨q1, hj⟩ := f _ _ hj (by intro z; cases z)
    obtain ⟨q2, hk⟩ := f _ _ hk (by intro z; cases z)
    rw [List.getElem?_set_ne (Ne.symm q1)] at e1
    rw [List.getElem?_set_ne (Ne.symm q2)] at e2
    exact r.sep j k d1 d2 p' hj hk e1 e2
end
end LD

set_option maxHeartbeats 4000000
namespace LD
open PySem PySem.Spec L2 PyProof.Rows
/-- a tuple times nothing, or times one -/
theorem tuple_mul0 (l : Addr) (items : Array Value) (n : Nat) (dd : Option Addr) (sl : Array (Option Value)) (u : Tok) (hne : items.isEmpty = false) :
    Meets (Builtin.«tuple.__mul__» ⟨[.ref l, .int 0 u], []⟩) (fun _ R s => s.heap.get? l = some { cls := .type "tuple", dict := dd, data := .seq items n, slots := sl } ∧
      R (.ok (.ret (Value.ref s.heap.objs.size))) { s with heap := s.heap.push { cls := Value.type "tuple", data := Data.seq #[] }, toks := s.toks }) :=
  .of_wp fun prog w A R s h => by
    obtain ⟨hp, g, d, tk, os⟩ := s
    obtain ⟨hl, h⟩ := h
    have f1 := AutoSeq1.idx_int
    have c0 : (decide ((0 : Int) < -(2 ^ 63)) || decide ((0 : Int) ≥ 2 ^ 63)) = false := by decide
    have c1 : (items.isEmpty || (0 : Int) == 1) = false := by rw [hne]; rfl
    have c2 : (decide ((0 : Int) ≤ 0) || items.isEmpty) = true := by rw [hne]; rfl
    wp_walk using wpAny_loadPart' hl
    repeat (first
      | (refine wpAny_ite_false (decide_eq_false (by rw [c0]; exact Bool.false_ne_true)) ?_; wp_walk using wpAny_loadPart' hl)
      | (refine wpAny_ite_false (decide_eq_false (by rw [c1]; exact Bool.false_ne_true)) ?_; wp_walk using wpAny_loadPart' hl)
      | (refine wpAny_ite_true (decide_eq_true (by rw [c2])) ?_; wp_walk using wpAny_loadPart' hl))
    exact ⟨_, rfl, h⟩
def rRepT0 (K : PySem.W.Frag) : R2 := fun x y H Q => ∃ l xs, x = .ref l ∧ y = .int 0 ∧ SqT K H l xs ∧ xs ≠ [] ∧ ∀ p, H p = none → Q (.ref p) (upd H p (.tup []))
theorem op_repT0 {X : Cx} : OpR X (binaryOp .Mult) (rRepT0 X.K) := by
  intro pins s σ H x y v u Q I rx ry h
  obtain ⟨l, xs, rfl, rfl, hT, hne, q⟩ := h
  cases rx
  obtain ⟨t, rfl⟩ := ry
  obtain ⟨its, r, ⟨⟨cls, dd, data, sl⟩, ho, hc, n, hd⟩, hs⟩ := I.tuple hT
  simp only at hc hd
  subst hc hd
  have hle : its.length = xs.length := r.length.symm
  have hi : its.toArray.isEmpty = false := by
    cases its with
    | nil => exact absurd (List.eq_nil_of_length_eq_zero hle.symm) hne
    | cons a b => rfl
  refine wpAny_binaryOp_repeat_ref (T := "tuple") (U := "int") (by decide) ⟨_, ho, rfl⟩ (fun s' => typeIs_int s' 0 t) noFill_tuple_mul PySem.F.fills_int_mul PySem.F.slot_int_rmul repeat_tuple PySem.F.slot_int_index.lookup
    (call_meets PySem.F.slot_int_rmul (typeIs_int s 0 t) PySem.F.entry_int_rmul (PySem.F.args_int_rmul_2 _ _) (int_rmul_tuple 0 t l its.toArray n dd sl)
      ⟨ho, rfl, ⟨_, ho, rfl⟩, call_meets PySem.F.slot_tuple_mul ⟨_, ho, rfl⟩ PySem.F.entry_tuple_mul (PySem.F.args_tuple_mul_2 _ _) (tuple_mul0 l its.toArray n dd sl t hi) ⟨ho, ?_⟩⟩)
  exact ⟨.ref s.heap.objs.size, _, I.laid (t' := s.toks) (o := .tup []) (fun b ob q => Heap.get?_push_of_some _ q) (Nat.le_refl _) ⟨Nat.zero_le _, [], .nil, IsTup.new _ _⟩, rfl, q _ (I.hok.fresh (Nat.le_refl _))⟩
end LD

namespace LD
open PySem PySem.Spec L2

abbrev TD := List Sl → (D → Prop) → Prop
abbrev TDB := List Sl → (Bool → Prop) → Prop
abbrev TDL := List Sl → (List D → Prop) → Prop

/-- a value that is at hand: data that stands for good, or what one's own list holds just now -/
def RepB (K : PySem.W.Frag) (G H : Hp) (v : V) (d : D) : Prop := Rep K G v d ∨ ∃ p, v = .ref p ∧ OwnAt K G H p d
section
variable {K : PySem.W.Frag} {G H G' H' : Hp} {v : V} {d : D}
theorem RepB.to (h : RepB K G H v d) (e : Ext G H G' H') : RepB K G' H' v d := by
  rcases h with h | ⟨p, rfl, h⟩
  · exact .inl (h.same e.gg)
  · exact .inr ⟨p, rfl, h.ext e⟩
theorem RepB.rep (h : RepB K G H v d) (s : Same G H) : Rep K H v d := by
  rcases h with h | ⟨p, rfl, h⟩
  · exact h.same s
  · exact h.rep s
/-- a list at hand: where it lies, its items -/
theorem RepB.lst {ds : List D} (h : RepB K G H v (.lst ds)) (s : Same G H) : ∃ p xs, v = .ref p ∧ H p = some (.lst xs) ∧ RepL K G xs ds := by
  rcases h with h | ⟨p, rfl, h⟩
  · cases h with
    | lst h r => exact ⟨_, _, rfl, s _ _ h, r⟩
  · obtain ⟨xs, h, r⟩ := h; exact ⟨p, xs, rfl, h, r⟩
theorem RepB.tup {ds : List D} (h : RepB K G H v (.tup ds)) (s : Same G H) : ∃ p xs, v = .ref p ∧ SqT K H p xs ∧ RepL K G xs ds := by
  rcases h with h | ⟨p, rfl, h⟩
  · cases h with
    | tup h r => exact ⟨_, _, rfl, Same.tseq s h, r⟩
  · exact h.elim
theorem RepB.scr {ds : List D} (h : RepB K G H v (.scr ds)) (s : Same G H) : ∃ p xs, v = .ref p ∧ SqL K H p xs ∧ RepL K G xs ds := by
  rcases h with h | ⟨p, rfl, h⟩
  · cases h with
    | scr h r => exact ⟨_, _, rfl, s.seq h, r⟩
  · exact h.elim
theorem RepB.int {i : Int} (h : RepB K G H v (.int i)) : v = .int i := by
  rcases h with h | ⟨p, rfl, h⟩
  · cases h; rfl
  · exact h.elim
theorem RepB.bl {i : Bool} (h : RepB K G H v (.bl i)) : v = .bl i := by
  rcases h with h | ⟨p, rfl, h⟩
  · cases h; rfl
  · exact h.elim
theorem RepB.str {i : Str} (h : RepB K G H v (.str i)) : v = .str i := by
  rcases h with h | ⟨p, rfl, h⟩
  · cases h; rfl
  · exact h.elim
theorem RepB.non (h : RepB K G H v .non) : v = .non := by
  rcases h with h | ⟨p, rfl, h⟩
  · cases h; rfl
  · exact h.elim
theorem RepB.dct {ds : List (Key × D)} (h : RepB K G H v (.dct ds)) (s : Same G H) : ∃ p xs, v = .ref p ∧ H p = some (.dK xs) ∧ RepK K G xs ds := by
  rcases h with h | ⟨p, rfl, h⟩
  · cases h with
    | dct h r => exact ⟨_, _, rfl, s _ _ h, r⟩
  · obtain ⟨xs, h, r⟩ := h; exact ⟨p, xs, rfl, h, r⟩
theorem RepB.dctT {ds : List (List Key × D)} (h : RepB K G H v (.dctT ds)) (s : Same G H) : ∃ p xs, v = .ref p ∧ H p = some (.dT xs) ∧ RepT K G xs ds := by
  rcases h with h | ⟨p, rfl, h⟩
  · cases h with
    | dctT h r => exact ⟨_, _, rfl, s _ _ h, r⟩
  · obtain ⟨xs, h, r⟩ := h; exact ⟨p, xs, rfl, h, r⟩
end

/-! ### judgements -/
structure PD (X : Cx) (e : Expr) (t : TD) : Prop where
  ex : ∃ te : TE, PE X e te ∧ ∀ {G0 H0 G H : Hp} {σ : L2.St} {sd : List Sl} {Q : D → Prop} {R : VK}, Rel X.K G0 H0 G H σ sd → t sd Q →
    (∀ G' H' v d, Ext G H G' H' → Rep X.K G' v d → Q d → R v H') → te σ H R
structure PB (X : Cx) (e : Expr) (t : TD) : Prop where
  ex : ∃ te : TE, PE X e te ∧ ∀ {G0 H0 G H : Hp} {σ : L2.St} {sd : List Sl} {Q : D → Prop} {R : VK}, Rel X.K G0 H0 G H σ sd → t sd Q →
    (∀ G' H' v d, Ext G H G' H' → RepB X.K G' H' v d → Q d → R v H') → te σ H R
/-- a new object, not yet for good -/
structure PF (X : Cx) (e : Expr) (t : TD) : Prop where
  ex : ∃ te : TE, PE X e te ∧ ∀ {G0 H0 G H : Hp} {σ : L2.St} {sd : List Sl} {Q : D → Prop} {R : VK}, Rel X.K G0 H0 G H σ sd → t sd Q →
    (∀ G' H' p d, Ext G H G' H' → OwnAt X.K G' H' p d → H p = none → G' p = none → Q d → R (.ref p) H') → te σ H R
structure PTD (X : Cx) (e : Expr) (t : TDB) : Prop where
  ex : ∃ te : TT, PT X e te ∧ ∀ {G0 H0 G H : Hp} {σ : L2.St} {sd : List Sl} {Q : Bool → Prop} {R : Bool → Hp → Prop}, Rel X.K G0 H0 G H σ sd → t sd Q →
    (∀ G' H' b, Ext G H G' H' → Q b → R b H') → te σ H R
structure PWD (X : Cx) (e : Expr) (t : TDB) : Prop where
  ex : ∃ te : TT, PW X e te ∧ ∀ {G0 H0 G H : Hp} {σ : L2.St} {sd : List Sl} {Q : Bool → Prop} {R : Bool → Hp → Prop}, Rel X.K G0 H0 G H σ sd → t sd Q →
    (∀ G' H' b, Ext G H G' H' → Q b → R b H') → te σ H R
structure PAD (X : Cx) (es : List Expr) (t : TDL) : Prop where
  ex : ∃ te : TA, PA X es te ∧ ∀ {G0 H0 G H : Hp} {σ : L2.St} {sd : List Sl} {Q : List D → Prop} {R : List V → Hp → Prop}, Rel X.K G0 H0 G H σ sd → t sd Q →
    (∀ G' H' vs ds, Ext G H G' H' → RepL X.K G' vs ds → Q ds → R vs H') → te σ H R
/-- arguments at hand -/
structure PAB (X : Cx) (es : List Expr) (t : TDL) : Prop where
  ex : ∃ te : TA, PA X es te ∧ ∀ {G0 H0 G H : Hp} {σ : L2.St} {sd : List Sl} {Q : List D → Prop} {R : List V → Hp → Prop}, Rel X.K G0 H0 G H σ sd → t sd Q →
    (∀ G' H' vs ds, Ext G H G' H' → Paired (RepB X.K G' H') vs ds → Q ds → R vs H') → te σ H R
section
variable {X : Cx} {e : Expr} {t : TD}
theorem PD.pb (h : PD X e t) : PB X e t := by
  obtain ⟨te, h1, h2⟩ := h.ex
  exact ⟨te, h1, fun r q k => h2 r q fun G' H' v d e rp z => k G' H' v d e (.inl rp) z⟩
theorem newGood {K : PySem.W.Frag} {G H G' H' : Hp} {p : Addr} {d : D} (e : Ext G H G' H') (o : OwnAt K G' H' p d) (hn : H p = none) (hg : G' p = none) : ∃ G2, Ext G H G2 H' ∧ Same G' G2 ∧ Rep K G2 (.ref p) d := by
  obtain ⟨ob, hob⟩ := o.some
  have sg : Same G' (upd G' p ob) := fun a u z => by rw [upd_ne (ne_of_none z hg)]; exact z
  refine ⟨upd G' p ob, ⟨e.hh, e.gg.trans sg, fun a u z => ?_, fun a u z => ?_⟩, sg, ?_⟩
  · by_cases q : a = p
    · subst q; rw [upd_same] at z; cases z; exact hob
    · rw [upd_ne q] at z; exact e.gh _ _ z
  · by_cases q : a = p
    · subst q; exact .inr hn
    · rw [upd_ne q] at z; exact e.new _ _ z
  · cases d with
    | lst ds => obtain ⟨xs, a, b⟩ := o; rw [hob] at a; cases a; exact .lst upd_same (b.same sg)
    | dct ds => obtain ⟨xs, a, b⟩ := o; rw [hob] at a; cases a; exact .dct upd_same (b.same sg)
    | dctT ds => obtain ⟨xs, a, b⟩ := o; rw [hob] at a; cases a; exact .dctT upd_same (b.same sg)
    | _ => exact o.elim
theorem PF.pd (h : PF X e t) : PD X e t := by
  obtain ⟨te, h1, h2⟩ := h.ex
  refine ⟨te, h1, fun r q k => h2 r q fun G' H' p d e o hn hg z => ?_⟩
  obtain ⟨G2, e2, _, rp⟩ := newGood e o hn hg
  exact k G2 H' _ d e2 rp z
end

/-! ### names, constants -/
def dVar (i : Nat) : TD := fun sd Q => match sd[i]? with | some (.dat d) => Q d | _ => False
def bVar (i : Nat) : TD := fun sd Q => match sd[i]? with | some (.dat d) => Q d | some (.own d) => Q d | _ => False
def dC (d : D) : TD := fun _ Q => Q d
section
variable {X : Cx} {pos : Pos}
theorem pd_v (i : Nat) {x : Str} {pos : Pos} (hN : X.N[i]? = some x := by rfl) (hv : Vis X.env.scope x := by first | exact Or.inl rfl | exact Or.inr (Or.inl rfl) | exact Or.inr (Or.inr rfl)) (hd : (x == ("__debug__" : Str)) = false := by decide)
    (hcd : (x == ("__classdict__" : Str)) = false := by decide) : PD X (.Name x pos) (dVar i) := by
  refine ⟨tVar i, pe_var hN hv hd hcd, fun {G0 H0 G H σ sd Q R} r q k => ?_⟩
  unfold dVar at q
  split at q
  · rename_i d hd
    obtain ⟨v, h1, h2⟩ := r.dat i d hd
    exact ⟨v, h1, k G H v d (.refl r.same) h2 q⟩
  · exact q.elim
theorem pb_v (i : Nat) {x : Str} {pos : Pos} (hN : X.N[i]? = some x := by rfl) (hv : Vis X.env.scope x := by first | exact Or.inl rfl | exact Or.inr (Or.inl rfl) | exact Or.inr (Or.inr rfl)) (hd : (x == ("__debug__" : Str)) = false := by decide)
    (hcd : (x == ("__classdict__" : Str)) = false := by decide) : PB X (.Name x pos) (bVar i) := by
  refine ⟨tVar i, pe_var hN hv hd hcd, fun {G0 H0 G H σ sd Q R} r q k => ?_⟩
  unfold bVar at q
  split at q
  · rename_i d hd
    obtain ⟨v, h1, h2⟩ := r.dat i d hd
    exact ⟨v, h1, k G H v d (.refl r.same) (.inl h2) q⟩
  · rename_i d hd
    obtain ⟨p, h1, h2, _⟩ := r.own i d hd
    exact ⟨_, h1, k G H _ d (.refl r.same) (.inr ⟨p, rfl, h2⟩) q⟩
  · exact q.elim
theorem pd_const {v : V} {d : D} {e : Expr} (h : PE X e (tC v)) (rp : ∀ G, Rep X.K G v d) : PD X e (dC d) :=
  ⟨tC v, h, fun {G0 H0 G H σ sd Q R} r q k => k G H v d (.refl r.same) (rp G) q⟩
theorem pd_int {i : Int} {j : Nat} : PD X (.Constant (.int i) j pos) (dC (.int i)) := pd_const pe_int fun _ => .int i
theorem pd_bl {b : Bool} {j : Nat} : PD X (.Constant (.bool b) j pos) (dC (.bl b)) := pd_const pe_bl fun _ => .bl b
theorem pd_non {j : Nat} : PD X (.Constant .none j pos) (dC .non) := pd_const pe_non fun _ => .non
theorem pd_str {x : Str} {j : Nat} : PD X (.Constant (.str x) j pos) (dC (.str x)) := pd_const pe_str fun _ => .str x
/-- a module's constant -/
theorem pd_glob {x : Str} {v : V} {u : Value} {d : D} (hg : Gl X x) (hm : X.mg x = some u) (r : RelV v u) (rp : ∀ G, Rep X.K G v d) (hd : (x == ("__debug__" : Str)) = false := by decide) : PD X (.Name x pos) (dC d) :=
  pd_const (pe_glob hg hm r hd) rp
end

/-! ### operators by values -/
/-- a two-place operation: what it asks, of data -/
def V2 (K : PySem.W.Frag) (r : R2) (tv : D → D → (D → Prop) → Prop) : Prop :=
  ∀ {G H : Hp} {x y : V} {d e : D} {Q : D → Prop} {R : VK}, Same G H → RepB K G H x d → RepB K G H y e → tv d e Q → (∀ G' H' v d', Ext G H G' H' → Rep K G' v d' → Q d' → R v H') → r x y H R
/-- .. whose answer is a bool -/
def VB2 (K : PySem.W.Frag) (r : R2) (tv : D → D → (Bool → Prop) → Prop) : Prop :=
  ∀ {G H : Hp} {x y : V} {d e : D} {Q : Bool → Prop} {R : VK}, Same G H → RepB K G H x d → RepB K G H y e → tv d e Q → (∀ G' H' b, Ext G H G' H' → Q b → R (.bl b) H') → r x y H R
def d2 (tv : D → D → (D → Prop) → Prop) (ta tb : TD) : TD := fun sd Q => ta sd fun d => tb sd fun e => tv d e Q
def dB2 (tv : D → D → (Bool → Prop) → Prop) (ta tb : TD) : TDB := fun sd Q => ta sd fun d => tb sd fun e => tv d e Q
def dBV (t : TDB) : TD := fun sd Q => t sd fun b => Q (.bl b)
section
variable {X : Cx} {a b c : Expr} {ta tb tc : TD} {pos : Pos}
theorem bin2 {r : R2} {te1 te2 : TE} (h2 : ∀ {G0 H0 G H : Hp} {σ : L2.St} {sd : List Sl} {Q : D → Prop} {R : VK}, Rel X.K G0 H0 G H σ sd → ta sd Q → (∀ G' H' v d, Ext G H G' H' → RepB X.K G' H' v d → Q d → R v H') → te1 σ H R)
    (h4 : ∀ {G0 H0 G H : Hp} {σ : L2.St} {sd : List Sl} {Q : D → Prop} {R : VK}, Rel X.K G0 H0 G H σ sd → tb sd Q → (∀ G' H' v d, Ext G H G' H' → RepB X.K G' H' v d → Q d → R v H') → te2 σ H R)
    {G0 H0 G H : Hp} {σ : L2.St} {sd : List Sl} {S : D → D → Prop} {R : VK} (rl : Rel X.K G0 H0 G H σ sd) (q : ta sd fun d => tb sd fun e => S d e)
    (k : ∀ G' H' x y d e, Ext G H G' H' → RepB X.K G' H' x d → RepB X.K G' H' y e → S d e → r x y H' R) : tOp r te1 te2 σ H R :=
  h2 rl q fun G1 H1 x d e1 r1 q1 => h4 (rl.to e1) q1 fun G2 H2 y e e2 r2 q2 => k G2 H2 x y d e (e1.trans e2) (r1.to e2) r2 q2
theorem pd_op2 {op : Operator} {r : R2} {tv : D → D → (D → Prop) → Prop} (ho : OpR X (binaryOp op) r) (hv : V2 X.K r tv) (ha : PB X a ta) (hb : PB X b tb) : PD X (.BinOp a op b pos) (d2 tv ta tb) := by
  obtain ⟨te1, h1, h2⟩ := ha.ex
  obtain ⟨te2, h3, h4⟩ := hb.ex
  exact ⟨tOp r te1 te2, pe_op ho h1 h3, fun rl q k => bin2 h2 h4 rl q fun G' H' x y d e ex rx ry z => hv ex.gh rx ry z fun G2 H2 v d' e2 rp w => k G2 H2 v d' (ex.trans e2) rp w⟩
theorem pd_cmp {op : CmpOp} {r : R2} {tv : D → D → (Bool → Prop) → Prop} (ho : OpR X (compareOp op) r) (hv : VB2 X.K r tv) (ha : PB X a ta) (hb : PB X b tb) (hm : behindInMarks op b = false := by first | exact nomark _ | rfl) :
    PD X (.Compare a [op] [b] pos) (dBV (dB2 tv ta tb)) := by
  obtain ⟨te1, h1, h2⟩ := ha.ex
  obtain ⟨te2, h3, h4⟩ := hb.ex
  exact ⟨tOp r te1 te2, pe_cmpR ho h1 h3 hm, fun rl q k => bin2 h2 h4 rl q fun G' H' x y d e ex rx ry z => hv ex.gh rx ry z fun G2 H2 b e2 w => k G2 H2 _ _ (ex.trans e2) (.bl b) w⟩
theorem ptd_cmp {op : CmpOp} {r : R2} {tv : D → D → (Bool → Prop) → Prop} (ho : OpR X (compareOp op) r) (hv : VB2 X.K r tv) (ha : PB X a ta) (hb : PB X b tb) (hm : behindInMarks op b = false := by first | exact nomark _ | rfl) :
    PTD X (.Compare a [op] [b] pos) (dB2 tv ta tb) := by
  obtain ⟨te1, h1, h2⟩ := ha.ex
  obtain ⟨te2, h3, h4⟩ := hb.ex
  exact ⟨tTest (tOp r te1 te2), pt_cmpR ho h1 h3 hm, fun rl q k => bin2 h2 h4 rl q fun G' H' x y d e ex rx ry z => hv ex.gh rx ry z fun G2 H2 b e2 w => ⟨b, rfl, k G2 H2 _ (ex.trans e2) w⟩⟩
/-- by cases on a bool -/
def ifB (b : Bool) (A B : Prop) : Prop := match b with | true => A | false => B
theorem ifB_t {A B : Prop} : ifB true A B = A := rfl
theorem ifB_f {A B : Prop} : ifB false A B = B := rfl
def dChain (tv tv' : D → D → (Bool → Prop) → Prop) (ta tb tc : TD) : TDB := fun sd Q => ta sd fun d => tb sd fun e => tv d e fun k => ifB k (tc sd fun f => tv' e f Q) (Q false)
theorem chainR {r r' : R2} {tv tv' : D → D → (Bool → Prop) → Prop} {te1 te2 te3 : TE} (hv : VB2 X.K r tv) (hv' : VB2 X.K r' tv')
    (h2 : ∀ {G0 H0 G H : Hp} {σ : L2.St} {sd : List Sl} {Q : D → Prop} {R : VK}, Rel X.K G0 H0 G H σ sd → ta sd Q → (∀ G' H' v d, Ext G H G' H' → RepB X.K G' H' v d → Q d → R v H') → te1 σ H R)
    (h4 : ∀ {G0 H0 G H : Hp} {σ : L2.St} {sd : List Sl} {Q : D → Prop} {R : VK}, Rel X.K G0 H0 G H σ sd → tb sd Q → (∀ G' H' v d, Ext G H G' H' → RepB X.K G' H' v d → Q d → R v H') → te2 σ H R)
    (h6 : ∀ {G0 H0 G H : Hp} {σ : L2.St} {sd : List Sl} {Q : D → Prop} {R : VK}, Rel X.K G0 H0 G H σ sd → tc sd Q → (∀ G' H' v d, Ext G H G' H' → RepB X.K G' H' v d → Q d → R v H') → te3 σ H R)
    {G0 H0 G H : Hp} {σ : L2.St} {sd : List Sl} {Q : Bool → Prop} {R : VK} (rl : Rel X.K G0 H0 G H σ sd) (q : dChain tv tv' ta tb tc sd Q)
    (k : ∀ G' H' b, Ext G H G' H' → Q b → R (.bl b) H') : tChain r r' te1 te2 te3 σ H R := by
  refine h2 rl q fun G1 H1 x d e1 r1 q1 => h4 (rl.to e1) q1 fun G2 H2 y e e2 r2 q2 => hv e2.gh (r1.to e2) r2 q2 fun G3 H3 b e3 q3 => ⟨b, rfl, ?_⟩
  cases b with
  | true =>
    rw [ifB_t] at q3; refine iteT ?_
    exact h6 ((rl.to e1).to (e2.trans e3)) q3 fun G4 H4 z f e4 r4 q4 => hv' e4.gh (r2.to (e3.trans e4)) r4 q4 fun G5 H5 b e5 q5 => k G5 H5 b (e1.trans (e2.trans (e3.trans (e4.trans e5)))) q5
  | false =>
    rw [ifB_f] at q3; refine iteF ?_
    exact k G3 H3 false (e1.trans (e2.trans e3)) q3
theorem pd_chain {op op' : CmpOp} {r r' : R2} {tv tv' : D → D → (Bool → Prop) → Prop} (ho : OpR X (compareOp op) r) (ho' : OpR X (compareOp op') r') (hv : VB2 X.K r tv) (hv' : VB2 X.K r' tv') (ha : PB X a ta) (hb : PB X b tb) (hc : PB X c tc)
    (hm : lastMarks [op, op'] [b, c] = false := by with_unfolding_all rfl) : PD X (.Compare a [op, op'] [b, c] pos) (dBV (dChain tv tv' ta tb tc)) := by
  obtain ⟨te1, h1, h2⟩ := ha.ex
  obtain ⟨te2, h3, h4⟩ := hb.ex
  obtain ⟨te3, h5, h6⟩ := hc.ex
  exact ⟨tChain r r' te1 te2 te3, pe_chain ho ho' h1 h3 h5 hm, fun rl q k => chainR hv hv' h2 h4 h6 rl q fun G' H' b e w => k G' H' _ _ e (.bl b) w⟩
theorem ptd_chain {op op' : CmpOp} {r r' : R2} {tv tv' : D → D → (Bool → Prop) → Prop} (ho : OpR X (compareOp op) r) (ho' : OpR X (compareOp op') r') (hv : VB2 X.K r tv) (hv' : VB2 X.K r' tv') (ha : PB X a ta) (hb : PB X b tb) (hc : PB X c tc)
    (hm : lastMarks [op, op'] [b, c] = false := by with_unfolding_all rfl) : PTD X (.Compare a [op, op'] [b, c] pos) (dChain tv tv' ta tb tc) := by
  obtain ⟨te1, h1, h2⟩ := ha.ex
  obtain ⟨te2, h3, h4⟩ := hb.ex
  obtain ⟨te3, h5, h6⟩ := hc.ex
  exact ⟨tTest (tChain r r' te1 te2 te3), pt_chain ho ho' h1 h3 h5 hm, fun rl q k => chainR hv hv' h2 h4 h6 rl q fun G' H' b e w => ⟨b, rfl, k G' H' b e w⟩⟩

/-! ### the operators -/
def vAdd : D → D → (D → Prop) → Prop
  | .int i, .int j, Q => Q (.int (i + j))
  | .tup a, .tup b, Q => a.length + b.length ≤ sizeLine ∧ Q (.tup (a ++ b))
  | .lst a, .lst b, Q => a.length + b.length ≤ sizeLine ∧ Q (.lst (a ++ b))
  | .str a, .str b, Q => a.length + b.length ≤ sizeLine ∧ Q (.str (a ++ b))
  | _, _, _ => False
def rAddD (K : PySem.W.Frag) : R2 := fun x y H Q => (rI0 (fun i j => .int (i + j)) x y H Q ∨ rCatA K x y H Q) ∨ (rCat x y H Q ∨ ∃ i j, x = .str i ∧ y = .str j ∧ i.length + j.length ≤ sizeLine ∧ Q (.str (i ++ j)) H)
theorem op_addD : OpR X (binaryOp .Add) (rAddD X.K) := (op_add.or op_catA).or (op_cat.or op_add_str)
theorem v_add {K : PySem.W.Frag} : V2 K (rAddD K) vAdd := by
  intro G H x y d e Q R s rx ry q k
  unfold vAdd at q
  split at q
  · exact .inl (.inl ⟨_, _, rx.int, ry.int, k G H _ _ (.refl s) (.int _) q⟩)
  · obtain ⟨p, xs, rfl, h1, r1⟩ := rx.tup s
    obtain ⟨p2, ys, rfl, h2, r2⟩ := ry.tup s
    obtain ⟨hz, q⟩ := q
    refine .inl (.inr ⟨p, p2, xs, ys, rfl, rfl, h1, h2, by rw [r1.length, r2.length]; exact hz, fun hx => ?_, fun _ hy => ?_, fun _ _ p' hp => ?_⟩)
    · subst hx
      cases r1
      rcases ry with ry | ⟨_, _, h⟩
      · exact k G H _ _ (.refl s) ry q
      · exact h.elim
    · subst hy
      cases r2
      rw [List.append_nil] at q
      rcases rx with rx | ⟨_, _, h⟩
      · exact k G H _ _ (.refl s) rx q
      · exact h.elim
    · have ex := Ext.fresh (o := .tup (xs ++ ys)) s hp
      exact k _ _ _ _ ex (.tup (SqT.of upd_same) ((r1.append r2).same ex.gg)) q
  · obtain ⟨p, xs, rfl, h1, r1⟩ := rx.lst s
    obtain ⟨p2, ys, rfl, h2, r2⟩ := ry.lst s
    obtain ⟨hz, q⟩ := q
    refine .inr (.inl ⟨p, p2, xs, ys, rfl, rfl, h1, h2, by rw [r1.length, r2.length]; exact hz, fun p' hp => ?_⟩)
    have ex := Ext.fresh (o := .lst (xs ++ ys)) s hp
    exact k _ _ _ _ ex (.lst upd_same ((r1.append r2).same ex.gg)) q
  · exact .inr (.inr ⟨_, _, rx.str, ry.str, q.1, k G H _ _ (.refl s) (.str _) q.2⟩)
  · exact q.elim
theorem pd_add (ha : PB X a ta) (hb : PB X b tb) : PD X (.BinOp a .Add b pos) (d2 vAdd ta tb) := pd_op2 op_addD v_add ha hb
/-- ints alone -/
def vI (C : Int → Int → Prop) (g : Int → Int → Int) : D → D → (D → Prop) → Prop
  | .int i, .int j, Q => C i j ∧ Q (.int (g i j))
  | _, _, _ => False
theorem v_int {K : PySem.W.Frag} {C : Int → Int → Prop} {g : Int → Int → Int} : V2 K (rI C fun i j => .int (g i j)) (vI C g) := by
  intro G H x y d e Q R s rx ry q k
  unfold vI at q
  split at q
  · exact ⟨_, _, rx.int, ry.int, q.1, k G H _ _ (.refl s) (.int _) q.2⟩
  · exact q.elim
def vSub : D → D → (D → Prop) → Prop
  | .int i, .int j, Q => Q (.int (i - j))
  | _, _, _ => False
theorem v_sub {K : PySem.W.Frag} : V2 K (rI0 fun i j => .int (i - j)) vSub := by
  intro G H x y d e Q R s rx ry q k
  unfold vSub at q
  split at q
  · exact ⟨_, _, rx.int, ry.int, k G H _ _ (.refl s) (.int _) q⟩
  · exact q.elim
theorem pd_sub (ha : PB X a ta) (hb : PB X b tb) : PD X (.BinOp a .Sub b pos) (d2 vSub ta tb) := pd_op2 op_sub v_sub ha hb
/-- * of ints (sizes together below 2^27 bits), of a list, a tuple by an int -/
def CBig (i j : Int) : Prop := PySem.IntMulOk i j
theorem op_mulX : OpR X (binaryOp .Mult) (rI CBig fun i j => .int (i * j)) := opI fun _ _ _ _ _ _ _ hc q => PyProof.Rows.mul_int q hc
def vMul : D → D → (D → Prop) → Prop
  | .int i, .int j, Q => CBig i j ∧ Q (.int (i * j))
  | .lst a, .int k, Q => -(2 ^ 63) ≤ k ∧ k < 2 ^ 63 ∧ a.length * k.toNat ≤ sizeLine ∧ Q (.lst (List.replicate k.toNat a).flatten)
  | .tup a, .int k, Q => a ≠ [] ∧ ((2 ≤ k ∧ k ≤ 1000 ∧ a.length ≤ 1000) ∨ k = 0) ∧ Q (.tup (List.replicate k.toNat a).flatten)
  | _, _, _ => False
def rMulD (K : PySem.W.Frag) : R2 := fun x y H Q => ((rI CBig (fun i j => .int (i * j)) x y H Q ∨ rRep x y H Q) ∨ rRepT K x y H Q) ∨ rRepT0 K x y H Q
theorem op_mulD : OpR X (binaryOp .Mult) (rMulD X.K) := ((op_mulX.or op_rep).or op_repT).or op_repT0
theorem v_mul {K : PySem.W.Frag} : V2 K (rMulD K) vMul := by
  intro G H x y d e Q R s rx ry q k
  unfold vMul at q
  split at q
  · exact .inl (.inl (.inl ⟨_, _, rx.int, ry.int, q.1, k G H _ _ (.refl s) (.int _) q.2⟩))
  · rename_i a kk
    obtain ⟨p, xs, rfl, h1, r1⟩ := rx.lst s
    obtain ⟨ha, hb, hz, q⟩ := q
    refine .inl (.inl (.inr ⟨p, _, xs, rfl, ry.int, h1, ha, hb, by rw [r1.length]; exact hz, fun p' hp => ?_⟩))
    have ex := Ext.fresh (o := .lst (List.replicate kk.toNat xs).flatten) s hp
    exact k _ _ _ _ ex (.lst upd_same ((r1.rep _).same ex.gg)) q
  · rename_i a kk
    obtain ⟨p, xs, rfl, h1, r1⟩ := rx.tup s
    obtain ⟨h0, hk, q⟩ := q
    have hx : xs ≠ [] := fun z => h0 (by subst z; cases r1; rfl)
    rcases hk with ⟨ha, hb, hz⟩ | rfl
    · refine .inl (.inr ⟨p, _, xs, rfl, ry.int, h1, hx, ha, hb, by rw [r1.length]; exact hz, fun p' hp => ?_⟩)
      have ex := Ext.fresh (o := .tup (List.replicate kk.toNat xs).flatten) s hp
      exact k _ _ _ _ ex (.tup (SqT.of upd_same) ((r1.rep _).same ex.gg)) q
    · refine .inr ⟨p, xs, rfl, ry.int, h1, hx, fun p' hp => ?_⟩
      have ex := Ext.fresh (o := .tup []) s hp
      exact k _ _ _ _ ex (.tup (SqT.of upd_same) .nil) q
  · exact q.elim
theorem pd_mul (ha : PB X a ta) (hb : PB X b tb) : PD X (.BinOp a .Mult b pos) (d2 vMul ta tb) := pd_op2 op_mulD v_mul ha hb
/-- // by a positive divisor of at most 9000 bits -/
theorem op_fdivX : OpR X (binaryOp .FloorDiv) (rI (fun _ j => 0 < j ∧ j.natAbs.log2 < 9000) fun i j => .int (i / j)) := opI fun i j _ _ _ _ _ hc q => by
  have h1 : (0 : Int) < j := hc.1
  exact PyProof.Rows.floordiv_int (by omega) (by rw [Int.fdiv_eq_ediv_of_nonneg i (by omega)]; exact q) (.inl (PyProof.noPylong_of_log2 hc.2))
theorem pd_fdiv (ha : PB X a ta) (hb : PB X b tb) : PD X (.BinOp a .FloorDiv b pos) (d2 (vI (fun _ j => 0 < j ∧ j.natAbs.log2 < 9000) (· / ·)) ta tb) := pd_op2 op_fdivX v_int ha hb
theorem pd_mod (ha : PB X a ta) (hb : PB X b tb) : PD X (.BinOp a .Mod b pos) (d2 (vI (fun _ j => 0 < j) (· % ·)) ta tb) := pd_op2 op_mod v_int ha hb
theorem pd_pow (ha : PB X a ta) (hb : PB X b tb) : PD X (.BinOp a .Pow b pos) (d2 (vI CPow fun i j => i ^ j.toNat) ta tb) := pd_op2 op_pow v_int ha hb
/-- -a -/
def vNeg : D → (D → Prop) → Prop
  | .int i, Q => Q (.int (-i))
  | _, _ => False
def dNeg (ta : TD) : TD := fun sd Q => ta sd fun d => vNeg d Q
theorem pd_neg (ha : PB X a ta) : PD X (.UnaryOp .USub a pos) (dNeg ta) := by
  obtain ⟨te1, h1, h2⟩ := ha.ex
  refine ⟨tUn _ te1, pe_un un_neg h1, fun rl q k => h2 rl q fun G' H' v d ex rx z => ?_⟩
  unfold vNeg at z
  split at z
  · exact ⟨_, rx.int, k G' H' _ _ ex (.int _) z⟩
  · exact z.elim
end
end LD

namespace LD
open PySem PySem.Spec L2

/-! ### data as PyData; == -/
mutual
def D.py : D → PyData
  | .non => .none
  | .bl b => .bool b
  | .int i => .int i
  | .str x => .str x
  | .lst xs => .list (D.pyL xs)
  | .scr xs => .list (D.pyL xs)
  | .tup xs => .tuple (D.pyL xs)
  | .dct _ => .dict []
  | .dctT _ => .dict []
  | .drw _ => .dict []
  | .ins _ _ => .dict []
def D.pyL : List D → List PyData
  | [] => []
  | d :: ds => D.py d :: D.pyL ds
end
theorem D.pyL_map : ∀ ds : List D, D.pyL ds = ds.map D.py
  | [] => rfl
  | d :: ds => by rw [D.pyL, D.pyL_map ds]; rfl
mutual
theorem Rep.dp {K : PySem.W.Frag} {H : Hp} : ∀ {v : V} {d : D}, Rep K H v d → d.py.canLay0 = true → Dp K H v d.py
  | _, _, .non, _ => .non
  | _, _, .bl b, _ => .bl b
  | _, _, .int i, _ => .int i
  | _, _, .str x, _ => .str x
  | _, _, .lst h r, c => .lst (SqL.of h) (RepL.dp r c)
  | _, _, .scr h r, c => .lst h (RepL.dp r c)
  | _, _, .tup h r, c => .tup h (RepL.dp r c)
  | _, _, .dct h r, c => by simp [D.py, PyData.canLay0] at c
  | _, _, .dctT h r, c => by simp [D.py, PyData.canLay0] at c
  | _, _, .drw _ _ _, c => by simp [D.py, PyData.canLay0] at c
theorem RepL.dp {K : PySem.W.Frag} {H : Hp} : ∀ {v : List V} {d : List D}, RepL K H v d → PyData.canLayAll0 (D.pyL d) = true → DpAll K H v (D.pyL d)
  | _, _, .nil, _ => .nil
  | _, _, .cons h r, c => by
    have c' := Bool.and_eq_true_iff.mp (show (PyData.canLay0 _ && PyData.canLayAll0 _) = true from c)
    exact .cons (Rep.dp h c'.1) (RepL.dp r c'.2)
end
def okD (d : D) : Bool := SeqAt.shaped d.py
def deq (d e : D) : Bool := PyData.eqv d.py e.py
def vEq : D → D → (Bool → Prop) → Prop := fun d e Q => (okD d = true ∧ okD e = true) ∧ Q (deq d e)
def vNe : D → D → (Bool → Prop) → Prop := fun d e Q => (okD d = true ∧ okD e = true) ∧ Q (!deq d e)
theorem v_eq {K : PySem.W.Frag} : VB2 K (rEqD K) vEq := by
  intro G H x y d e Q R s rx ry q k
  exact ⟨_, _, (rx.rep s).dp (SeqAt.canLay_of_shaped q.1.1), (ry.rep s).dp (SeqAt.canLay_of_shaped q.1.2), q.1.1, q.1.2, k G H _ (.refl s) q.2⟩
theorem v_ne {K : PySem.W.Frag} : VB2 K (rNeD K) vNe := by
  intro G H x y d e Q R s rx ry q k
  exact ⟨_, _, (rx.rep s).dp (SeqAt.canLay_of_shaped q.1.1), (ry.rep s).dp (SeqAt.canLay_of_shaped q.1.2), q.1.1, q.1.2, k G H _ (.refl s) q.2⟩
/-- < .. of ints -/
def vCI (p : Int → Int → Bool) : D → D → (Bool → Prop) → Prop
  | .int i, .int j, Q => Q (p i j)
  | _, _, _ => False
theorem v_ci {K : PySem.W.Frag} {p : Int → Int → Bool} : VB2 K (rI0 fun i j => .bl (p i j)) (vCI p) := by
  intro G H x y d e Q R s rx ry q k
  unfold vCI at q
  split at q
  · exact ⟨_, _, rx.int, ry.int, k G H _ (.refl s) q⟩
  · exact q.elim
abbrev vLt := vCI fun i j => decide (i < j)
abbrev vLe := vCI fun i j => decide (i ≤ j)
abbrev vGt := vCI fun i j => decide (j < i)
abbrev vGe := vCI fun i j => decide (j ≤ i)
/-- is None, is True -/
def D.isNon : D → Bool
  | .non => true
  | _ => false
theorem RepB.isNon {K : PySem.W.Frag} {G H : Hp} {v : V} {d : D} (h : RepB K G H v d) : decide (v = .non) = d.isNon := by
  rcases h with h | ⟨p, rfl, h⟩
  · cases h <;> rfl
  · cases d <;> first | exact h.elim | rfl
def vIs : D → D → (Bool → Prop) → Prop
  | d, .non, Q => Q d.isNon
  | .bl a, .bl b, Q => Q (decide (a = b))
  | _, _, _ => False
def vIsNot : D → D → (Bool → Prop) → Prop
  | d, .non, Q => Q (!d.isNon)
  | .bl a, .bl b, Q => Q (!decide (a = b))
  | _, _, _ => False
def rIsD : R2 := fun x y H Q => (y = .non ∧ Q (.bl (decide (x = .non))) H) ∨ rIsB x y H Q
def rIsNotD : R2 := fun x y H Q => (y = .non ∧ Q (.bl (!decide (x = .non))) H) ∨ rNotB x y H Q
section
variable {X : Cx}
theorem op_isD : OpR X (compareOp .Is) rIsD := op_isN.or op_isBl
theorem op_isNotD : OpR X (compareOp .IsNot) rIsNotD := op_notN.or op_notBl
end
theorem v_is {K : PySem.W.Frag} : VB2 K rIsD vIs := by
  intro G H x y d e Q R s rx ry q k
  unfold vIs at q
  split at q
  · exact .inl ⟨ry.non, by rw [rx.isNon]; exact k G H _ (.refl s) q⟩
  · exact .inr ⟨_, _, rx.bl, ry.bl, k G H _ (.refl s) q⟩
  · exact q.elim
theorem v_isNot {K : PySem.W.Frag} : VB2 K rIsNotD vIsNot := by
  intro G H x y d e Q R s rx ry q k
  unfold vIsNot at q
  split at q
  · exact .inl ⟨ry.non, by rw [rx.isNon]; exact k G H _ (.refl s) q⟩
  · exact .inr ⟨_, _, rx.bl, ry.bl, k G H _ (.refl s) q⟩
  · exact q.elim
/-! ### in -/
def rInT (K : PySem.W.Frag) (neg : Bool) : R2 := fun x y H Q => ∃ d ds, Dp K H x d ∧ Dp K H y (.tuple ds) ∧ SeqAt.shaped d = true ∧ SeqAt.shaped (.tuple ds) = true ∧ Q (.bl (if neg then !(ds.any fun z => PyData.eqv z d) else ds.any fun z => PyData.eqv z d)) H
section
variable {X : Cx}
theorem op_inT (hu : X.A.units + 65 < cLine) : OpR X (compareOp .In) (rInT X.K false) := by
  intro pins s σ H x y v u Q I rx ry h
  obtain ⟨d, ds, hd, he, sd, se, q⟩ := h
  obtain ⟨as, r1⟩ := Dp.reads I d x v hd rx
  obtain ⟨bs, r2⟩ := Dp.reads I (.tuple ds) y u he ry
  exact SeqAt.in_tuple_reads r2 r1 (SeqAt.canLay_of_shaped se) (SeqAt.canLay_of_shaped sd) (PyProof.Rows.room_in_shaped sd hu) ⟨.bl _, H, I, rfl, q⟩
theorem op_notInT (hu : X.A.units + 65 < cLine) : OpR X (compareOp .NotIn) (rInT X.K true) := by
  intro pins s σ H x y v u Q I rx ry h
  obtain ⟨d, ds, hd, he, sd, se, q⟩ := h
  obtain ⟨as, r1⟩ := Dp.reads I d x v hd rx
  obtain ⟨bs, r2⟩ := Dp.reads I (.tuple ds) y u he ry
  exact SeqAt.notIn_tuple_reads r2 r1 (SeqAt.canLay_of_shaped se) (SeqAt.canLay_of_shaped sd) (PyProof.Rows.room_in_shaped sd hu) ⟨.bl _, H, I, rfl, q⟩
end
def strIn (i j : Str) : Bool := !(Builtin.Str.occurrences j i 0 j.length 1).isEmpty
def dIn (d : D) (ds : List D) : Bool := ds.any fun z => deq z d
def vIn : D → D → (Bool → Prop) → Prop
  | d, .lst ds, Q => (okD d = true ∧ okD (.lst ds) = true) ∧ Q (dIn d ds)
  | d, .tup ds, Q => (okD d = true ∧ okD (.tup ds) = true) ∧ Q (dIn d ds)
  | .str i, .str j, Q => Q (strIn i j)
  | _, _, _ => False
def vNotIn : D → D → (Bool → Prop) → Prop
  | d, .lst ds, Q => (okD d = true ∧ okD (.lst ds) = true) ∧ Q (!dIn d ds)
  | d, .tup ds, Q => (okD d = true ∧ okD (.tup ds) = true) ∧ Q (!dIn d ds)
  | .str i, .str j, Q => Q (!strIn i j)
  | _, _, _ => False
theorem any_py (ds : List D) (d : D) : ((D.pyL ds).any fun z => PyData.eqv z d.py) = dIn d ds := by
  rw [D.pyL_map, List.any_map]; rfl
def rInAll (K : PySem.W.Frag) : R2 := fun x y H Q => (rInD K x y H Q ∨ rInT K false x y H Q) ∨ ∃ i j, x = .str i ∧ y = .str j ∧ Q (.bl (!(Builtin.Str.occurrences j i 0 j.length 1).isEmpty)) H
def rNotInAll (K : PySem.W.Frag) : R2 := fun x y H Q => (rNotInD K x y H Q ∨ rInT K true x y H Q) ∨ ∃ i j, x = .str i ∧ y = .str j ∧ Q (.bl (!(!(Builtin.Str.occurrences j i 0 j.length 1).isEmpty))) H
section
variable {X : Cx}
theorem op_inAll (hu : X.A.units + 65 < cLine) : OpR X (compareOp .In) (rInAll X.K) := ((op_inD hu).or (op_inT hu)).or op_in_str
theorem op_notInAll (hu : X.A.units + 65 < cLine) : OpR X (compareOp .NotIn) (rNotInAll X.K) := ((op_notInD hu).or (op_notInT hu)).or op_notIn_str
end
theorem v_in {K : PySem.W.Frag} : VB2 K (rInAll K) vIn := by
  intro G H x y d e Q R s rx ry q k
  unfold vIn at q
  split at q
  · exact .inl (.inl ⟨_, _, (rx.rep s).dp (SeqAt.canLay_of_shaped q.1.1), (ry.rep s).dp (SeqAt.canLay_of_shaped q.1.2), q.1.1, q.1.2, by rw [any_py]; exact k G H _ (.refl s) q.2⟩)
  · exact .inl (.inr ⟨_, _, (rx.rep s).dp (SeqAt.canLay_of_shaped q.1.1), (ry.rep s).dp (SeqAt.canLay_of_shaped q.1.2), q.1.1, q.1.2, by rw [if_neg Bool.false_ne_true, any_py]; exact k G H _ (.refl s) q.2⟩)
  · exact .inr ⟨_, _, rx.str, ry.str, k G H _ (.refl s) q⟩
  · exact q.elim
theorem v_notIn {K : PySem.W.Frag} : VB2 K (rNotInAll K) vNotIn := by
  intro G H x y d e Q R s rx ry q k
  unfold vNotIn at q
  split at q
  · exact .inl (.inl ⟨_, _, (rx.rep s).dp (SeqAt.canLay_of_shaped q.1.1), (ry.rep s).dp (SeqAt.canLay_of_shaped q.1.2), q.1.1, q.1.2, by rw [any_py]; exact k G H _ (.refl s) q.2⟩)
  · exact .inl (.inr ⟨_, _, (rx.rep s).dp (SeqAt.canLay_of_shaped q.1.1), (ry.rep s).dp (SeqAt.canLay_of_shaped q.1.2), q.1.1, q.1.2, by rw [if_pos rfl, any_py]; exact k G H _ (.refl s) q.2⟩)
  · exact .inr ⟨_, _, rx.str, ry.str, k G H _ (.refl s) q⟩
  · exact q.elim

section
variable {X : Cx} {a b c : Expr} {ta tb tc : TD} {pos : Pos}
theorem pd_eq (hu : X.A.units + 64 < cLine) (ha : PB X a ta) (hb : PB X b tb) : PD X (.Compare a [.Eq] [b] pos) (dBV (dB2 vEq ta tb)) := pd_cmp (op_eqD hu) v_eq ha hb
theorem ptd_eq (hu : X.A.units + 64 < cLine) (ha : PB X a ta) (hb : PB X b tb) : PTD X (.Compare a [.Eq] [b] pos) (dB2 vEq ta tb) := ptd_cmp (op_eqD hu) v_eq ha hb
theorem pd_ne (hu : X.A.units + 64 < cLine) (ha : PB X a ta) (hb : PB X b tb) : PD X (.Compare a [.NotEq] [b] pos) (dBV (dB2 vNe ta tb)) := pd_cmp (op_neD hu) v_ne ha hb
theorem ptd_ne (hu : X.A.units + 64 < cLine) (ha : PB X a ta) (hb : PB X b tb) : PTD X (.Compare a [.NotEq] [b] pos) (dB2 vNe ta tb) := ptd_cmp (op_neD hu) v_ne ha hb
theorem pd_lt (ha : PB X a ta) (hb : PB X b tb) : PD X (.Compare a [.Lt] [b] pos) (dBV (dB2 vLt ta tb)) := pd_cmp op_lt v_ci ha hb
theorem ptd_lt (ha : PB X a ta) (hb : PB X b tb) : PTD X (.Compare a [.Lt] [b] pos) (dB2 vLt ta tb) := ptd_cmp op_lt v_ci ha hb
theorem pd_le (ha : PB X a ta) (hb : PB X b tb) : PD X (.Compare a [.LtE] [b] pos) (dBV (dB2 vLe ta tb)) := pd_cmp op_le v_ci ha hb
theorem ptd_le (ha : PB X a ta) (hb : PB X b tb) : PTD X (.Compare a [.LtE] [b] pos) (dB2 vLe ta tb) := ptd_cmp op_le v_ci ha hb
theorem pd_gt (ha : PB X a ta) (hb : PB X b tb) : PD X (.Compare a [.Gt] [b] pos) (dBV (dB2 vGt ta tb)) := pd_cmp op_gt v_ci ha hb
theorem ptd_gt (ha : PB X a ta) (hb : PB X b tb) : PTD X (.Compare a [.Gt] [b] pos) (dB2 vGt ta tb) := ptd_cmp op_gt v_ci ha hb
theorem pd_ge (ha : PB X a ta) (hb : PB X b tb) : PD X (.Compare a [.GtE] [b] pos) (dBV (dB2 vGe ta tb)) := pd_cmp op_ge v_ci ha hb
theorem ptd_ge (ha : PB X a ta) (hb : PB X b tb) : PTD X (.Compare a [.GtE] [b] pos) (dB2 vGe ta tb) := ptd_cmp op_ge v_ci ha hb
theorem pd_is (ha : PB X a ta) (hb : PB X b tb) : PD X (.Compare a [.Is] [b] pos) (dBV (dB2 vIs ta tb)) := pd_cmp op_isD v_is ha hb
theorem ptd_is (ha : PB X a ta) (hb : PB X b tb) : PTD X (.Compare a [.Is] [b] pos) (dB2 vIs ta tb) := ptd_cmp op_isD v_is ha hb
theorem pd_isNot (ha : PB X a ta) (hb : PB X b tb) : PD X (.Compare a [.IsNot] [b] pos) (dBV (dB2 vIsNot ta tb)) := pd_cmp op_isNotD v_isNot ha hb
theorem ptd_isNot (ha : PB X a ta) (hb : PB X b tb) : PTD X (.Compare a [.IsNot] [b] pos) (dB2 vIsNot ta tb) := ptd_cmp op_isNotD v_isNot ha hb
theorem pd_in (hu : X.A.units + 65 < cLine) (ha : PB X a ta) (hb : PB X b tb) (hm : behindInMarks .In b = false := by rfl) : PD X (.Compare a [.In] [b] pos) (dBV (dB2 vIn ta tb)) := pd_cmp (op_inAll hu) v_in ha hb hm
theorem ptd_in (hu : X.A.units + 65 < cLine) (ha : PB X a ta) (hb : PB X b tb) (hm : behindInMarks .In b = false := by rfl) : PTD X (.Compare a [.In] [b] pos) (dB2 vIn ta tb) := ptd_cmp (op_inAll hu) v_in ha hb hm
theorem pd_notIn (hu : X.A.units + 65 < cLine) (ha : PB X a ta) (hb : PB X b tb) (hm : behindInMarks .NotIn b = false := by rfl) : PD X (.Compare a [.NotIn] [b] pos) (dBV (dB2 vNotIn ta tb)) := pd_cmp (op_notInAll hu) v_notIn ha hb hm
theorem ptd_notIn (hu : X.A.units + 65 < cLine) (ha : PB X a ta) (hb : PB X b tb) (hm : behindInMarks .NotIn b = false := by rfl) : PTD X (.Compare a [.NotIn] [b] pos) (dB2 vNotIn ta tb) := ptd_cmp (op_notInAll hu) v_notIn ha hb hm

/-! ### tests, and, or, not, if else -/
def asB : D → (Bool → Prop) → Prop
  | .bl b, Q => Q b
  | _, _ => False
def dTest (t : TD) : TDB := fun sd Q => t sd fun d => asB d Q
theorem ptd_val (ha : PB X a ta) (he : ∀ whole, isTrue a X.env whole = (do let v ← whole; standAt a.pos; holding [v] (truthy v)) := by intro _; rfl) : PTD X a (dTest ta) := by
  obtain ⟨te, h1, h2⟩ := ha.ex
  refine ⟨tB te, pt_val h1 he, fun rl q k => h2 rl q fun G' H' v d ex rv z => ?_⟩
  unfold asB at z
  split at z
  · exact ⟨_, rv.bl, k G' H' _ ex z⟩
  · exact z.elim
variable {t u : TDB} {rest : List Expr}
def dAnd (t u : TDB) : TDB := fun sd Q => t sd fun c => ifB c (u sd Q) (Q false)
def dOr (t u : TDB) : TDB := fun sd Q => t sd fun c => ifB c (Q true) (u sd Q)
def dNot (t : TDB) : TDB := fun sd Q => t sd fun c => Q (!c)
theorem PWD.pt (h : PWD X a t) : PTD X a t := by
  obtain ⟨te, h1, h2⟩ := h.ex
  exact ⟨te, h1.pt, h2⟩
theorem pwd_and1 (h : PTD X a t) : PWD X (.BoolOp .And [a] pos) t := by
  obtain ⟨te, h1, h2⟩ := h.ex
  exact ⟨te, pw_and1 h1, h2⟩
theorem pwd_or1 (h : PTD X a t) : PWD X (.BoolOp .Or [a] pos) t := by
  obtain ⟨te, h1, h2⟩ := h.ex
  exact ⟨te, pw_or1 h1, h2⟩
theorem pwd_and (ha : PTD X a t) (hb : PWD X (.BoolOp .And (b :: rest) pos) u) : PWD X (.BoolOp .And (a :: b :: rest) pos) (dAnd t u) := by
  obtain ⟨te, h1, h2⟩ := ha.ex
  obtain ⟨te2, h3, h4⟩ := hb.ex
  refine ⟨tAnd te te2, pw_and h1 h3, fun rl q k => h2 rl q fun G' H' b ex z => ?_⟩
  cases b with
  | true => rw [ifB_t] at z; refine iteT ?_; exact h4 (rl.to ex) z fun G2 H2 b e2 w => k G2 H2 b (ex.trans e2) w
  | false => rw [ifB_f] at z; refine iteF ?_; exact k G' H' _ ex z
theorem pwd_or (ha : PTD X a t) (hb : PWD X (.BoolOp .Or (b :: rest) pos) u) : PWD X (.BoolOp .Or (a :: b :: rest) pos) (dOr t u) := by
  obtain ⟨te, h1, h2⟩ := ha.ex
  obtain ⟨te2, h3, h4⟩ := hb.ex
  refine ⟨tOr te te2, pw_or h1 h3, fun rl q k => h2 rl q fun G' H' b ex z => ?_⟩
  cases b with
  | true => rw [ifB_t] at z; refine iteT ?_; exact k G' H' _ ex z
  | false => rw [ifB_f] at z; refine iteF ?_; exact h4 (rl.to ex) z fun G2 H2 b e2 w => k G2 H2 b (ex.trans e2) w
theorem ptd_not (ha : PTD X a t) : PTD X (.UnaryOp .Not a pos) (dNot t) := by
  obtain ⟨te, h1, h2⟩ := ha.ex
  exact ⟨tNot te, pt_not h1, fun rl q k => h2 rl q fun G' H' b ex z => k G' H' _ ex z⟩
/-- values: a and b, where a is True or False -/
def dAndV (ta tb : TD) : TD := fun sd Q => ta sd fun d => asB d fun c => ifB c (tb sd Q) (Q (.bl false))
def dOrV (ta tb : TD) : TD := fun sd Q => ta sd fun d => asB d fun c => ifB c (Q (.bl true)) (tb sd Q)
theorem pd_one {op : BoolOp} (h : PD X a ta) : PD X (.BoolOp op [a] pos) ta := by
  obtain ⟨te, h1, h2⟩ := h.ex
  exact ⟨te, pe_one h1, h2⟩
theorem pd_and (ha : PB X a ta) (hb : PD X (.BoolOp .And (b :: rest) pos) tb) : PD X (.BoolOp .And (a :: b :: rest) pos) (dAndV ta tb) := by
  obtain ⟨te, h1, h2⟩ := ha.ex
  obtain ⟨te2, h3, h4⟩ := hb.ex
  refine ⟨tAndV te te2, pe_and h1 h3, fun rl q k => h2 rl q fun G' H' v d ex rv z => ?_⟩
  unfold asB at z
  split at z
  · rename_i c
    refine ⟨c, rv.bl, ?_⟩
    cases c with
    | true => rw [ifB_t] at z; refine iteT ?_; exact h4 (rl.to ex) z fun G2 H2 v d e2 w => k G2 H2 v d (ex.trans e2) w
    | false => rw [ifB_f] at z; refine iteF ?_; exact k G' H' _ _ ex (.bl false) z
  · exact z.elim
theorem pd_or (ha : PB X a ta) (hb : PD X (.BoolOp .Or (b :: rest) pos) tb) : PD X (.BoolOp .Or (a :: b :: rest) pos) (dOrV ta tb) := by
  obtain ⟨te, h1, h2⟩ := ha.ex
  obtain ⟨te2, h3, h4⟩ := hb.ex
  refine ⟨tOrV te te2, pe_or h1 h3, fun rl q k => h2 rl q fun G' H' v d ex rv z => ?_⟩
  unfold asB at z
  split at z
  · rename_i c
    refine ⟨c, rv.bl, ?_⟩
    cases c with
    | true => rw [ifB_t] at z; refine iteT ?_; exact k G' H' _ _ ex (.bl true) z
    | false => rw [ifB_f] at z; refine iteF ?_; exact h4 (rl.to ex) z fun G2 H2 v d e2 w => k G2 H2 v d (ex.trans e2) w
  · exact z.elim
def dNotV (ta : TD) : TD := fun sd Q => ta sd fun d => asB d fun c => Q (.bl (!c))
theorem pd_not (ha : PB X a ta) : PD X (.UnaryOp .Not a pos) (dNotV ta) := by
  obtain ⟨te, h1, h2⟩ := ha.ex
  refine ⟨tNotV te, pe_not h1, fun rl q k => h2 rl q fun G' H' v d ex rv z => ?_⟩
  unfold asB at z
  split at z
  · rename_i c
    exact ⟨c, rv.bl, k G' H' _ _ ex (.bl _) z⟩
  · exact z.elim
def dIf (t : TDB) (ta tb : TD) : TD := fun sd Q => t sd fun c => ifB c (ta sd Q) (tb sd Q)
theorem pd_ifExp (hc : PTD X c t) (ha : PD X a ta) (hb : PD X b tb) : PD X (.IfExp c a b pos) (dIf t ta tb) := by
  obtain ⟨te, h1, h2⟩ := hc.ex
  obtain ⟨te2, h3, h4⟩ := ha.ex
  obtain ⟨te3, h5, h6⟩ := hb.ex
  refine ⟨tIf te te2 te3, pe_ifExp h1 h3 h5, fun rl q k => h2 rl q fun G' H' b ex z => ?_⟩
  cases b with
  | true => rw [ifB_t] at z; refine iteT ?_; exact h4 (rl.to ex) z fun G2 H2 v d e2 w => k G2 H2 v d (ex.trans e2) w
  | false => rw [ifB_f] at z; refine iteF ?_; exact h6 (rl.to ex) z fun G2 H2 v d e2 w => k G2 H2 v d (ex.trans e2) w

/-! ### arguments, displays -/
variable {e : Expr} {es : List Expr} {te : TD} {tl : TDL}
def dNil : TDL := fun _ Q => Q []
def dCons (te : TD) (tl : TDL) : TDL := fun sd Q => te sd fun d => tl sd fun ds => Q (d :: ds)
theorem pad_nil : PAD X [] dNil := ⟨tNil, pa_nil, fun rl q k => k _ _ _ _ (.refl rl.same) .nil q⟩
theorem pad_cons (ha : PD X e te) (hr : PAD X es tl) (hs : starEach (e :: es) X.env = (false, eval e X.env) :: starEach es X.env := by rfl) : PAD X (e :: es) (dCons te tl) := by
  obtain ⟨t1, h1, h2⟩ := ha.ex
  obtain ⟨t2, h3, h4⟩ := hr.ex
  exact ⟨tCons t1 t2, pa_cons h1 h3 hs, fun rl q k => h2 rl q fun G1 H1 v d e1 r1 q1 => h4 (rl.to e1) q1 fun G2 H2 vs ds e2 r2 q2 => k G2 H2 _ _ (e1.trans e2) (.cons (r1.same e2.gg) r2) q2⟩
theorem pab_nil : PAB X [] dNil := ⟨tNil, pa_nil, fun rl q k => k _ _ _ _ (.refl rl.same) .nil q⟩
theorem pab_cons (ha : PB X e te) (hr : PAB X es tl) (hs : starEach (e :: es) X.env = (false, eval e X.env) :: starEach es X.env := by rfl) : PAB X (e :: es) (dCons te tl) := by
  obtain ⟨t1, h1, h2⟩ := ha.ex
  obtain ⟨t2, h3, h4⟩ := hr.ex
  exact ⟨tCons t1 t2, pa_cons h1 h3 hs, fun rl q k => h2 rl q fun G1 H1 v d e1 r1 q1 => h4 (rl.to e1) q1 fun G2 H2 vs ds e2 r2 q2 => k G2 H2 _ _ (e1.trans e2) (.cons (r1.to e2) r2) q2⟩
def dTup (tl : TDL) : TD := fun sd Q => tl sd fun ds => ds.length ≤ sizeLine ∧ Q (.tup ds)
def dLst (tl : TDL) : TD := fun sd Q => tl sd fun ds => ds.length ≤ sizeLine ∧ Q (.lst ds)
theorem pd_tup {x1 : Nat} (h : PAD X es tl) : PD X (.Tuple es x1 pos) (dTup tl) := by
  obtain ⟨t1, h1, h2⟩ := h.ex
  refine ⟨tTup t1, pe_tup h1, fun rl q k => h2 rl q fun G' H' vs ds ex rs z => ⟨by rw [rs.length]; exact z.1, fun p hp => ?_⟩⟩
  have e2 := Ext.fresh (o := .tup vs) ex.gh hp
  exact k _ _ _ _ (ex.trans e2) (.tup (SqT.of upd_same) (rs.same e2.gg)) z.2
theorem pf_lst (h : PAD X es tl) : PF X (.List es pos) (dLst tl) := by
  obtain ⟨t1, h1, h2⟩ := h.ex
  refine ⟨tLst t1, pe_lst h1, fun rl q k => h2 rl q fun G' H' vs ds ex rs z => ⟨by rw [rs.length]; exact z.1, fun p hp => ?_⟩⟩
  have e2 := Ext.loose (o := .lst vs) ex.gh hp
  exact k _ _ _ (.lst ds) (ex.trans e2) ⟨vs, upd_same, rs⟩ (ex.hh.free hp) (ex.gh.free hp) z.2
end
end LD

namespace LD
open PySem PySem.Spec L2

/-! ### xs[i] -/
def optQ {α : Type} : Option α → (α → Prop) → Prop
  | some d, Q => Q d
  | none, _ => False
theorem optQ_ex {α : Type} {o : Option α} {Q : α → Prop} (h : optQ o Q) : ∃ d, o = some d ∧ Q d := by
  cases o with
  | none => exact h.elim
  | some d => exact ⟨d, rfl, h⟩
def vIx : D → D → (D → Prop) → Prop
  | .lst ds, .int i, Q => optQ (atI ds i) Q
  | .tup ds, .int i, Q => optQ (atI ds i) Q
  | .scr ds, .int i, Q => optQ (atI ds i) Q
  | .str z, .int i, Q => z.length ≤ sizeLine ∧ ∃ c, atI z.cps.toList i = some c ∧ Q (.str ⟨#[c]⟩)
  | _, _, _ => False
theorem RepL.atI {K : PySem.W.Frag} {G : Hp} {xs : List V} {ds : List D} {i : Int} {d : D} (r : RepL K G xs ds) (h : atI ds i = some d) : ∃ v, L2.atI xs i = some v ∧ Rep K G v d := by
  unfold L2.atI at h ⊢
  rw [r.length]
  cases q : ixN ds.length i with
  | none => rw [q] at h; cases h
  | some j =>
    rw [q] at h
    exact r.get h
theorem v_ix {K : PySem.W.Frag} : V2 K (rIx K) vIx := by
  intro G H x y d e Q R s rx ry q k
  unfold vIx at q
  split at q
  · obtain ⟨p, xs, rfl, h1, r1⟩ := rx.lst s
    obtain ⟨d, hd, q⟩ := optQ_ex q
    obtain ⟨v, hv, rv⟩ := r1.atI hd
    exact .inl ⟨p, xs, _, v, rfl, ry.int, SqL.of h1, hv, k G H _ _ (.refl s) rv q⟩
  · obtain ⟨p, xs, rfl, h1, r1⟩ := rx.tup s
    obtain ⟨d, hd, q⟩ := optQ_ex q
    obtain ⟨v, hv, rv⟩ := r1.atI hd
    exact .inr (.inl ⟨p, xs, _, v, rfl, ry.int, h1, hv, k G H _ _ (.refl s) rv q⟩)
  · obtain ⟨p, xs, rfl, h1, r1⟩ := rx.scr s
    obtain ⟨d, hd, q⟩ := optQ_ex q
    obtain ⟨v, hv, rv⟩ := r1.atI hd
    exact .inl ⟨p, xs, _, v, rfl, ry.int, h1, hv, k G H _ _ (.refl s) rv q⟩
  · obtain ⟨hz, c, hc, q⟩ := q
    exact .inr (.inr ⟨_, _, c, rx.str, ry.int, hz, hc, k G H _ _ (.refl s) (.str _) q⟩)
  · exact q.elim
section
variable {X : Cx} {a b c : Expr} {ta tb tc : TD} {pos : Pos}
theorem pd_ix (ha : PB X a ta) (hb : PB X b tb) (hs : PlainIx b := by intro _ _; rfl) : PD X (.Subscript a b pos) (d2 vIx ta tb) := by
  obtain ⟨te1, h1, h2⟩ := ha.ex
  obtain ⟨te2, h3, h4⟩ := hb.ex
  exact ⟨tOp (rIx X.K) te1 te2, pe_ix ix_seq h1 h3 hs, fun rl q k => bin2 h2 h4 rl q fun G' H' x y d e ex rx ry z => v_ix ex.gh rx ry z fun G2 H2 v d' e2 rp w => k G2 H2 v d' (ex.trans e2) rp w⟩
end
/-! ### xs[a:b] -/
def cut {α : Type} (xs : List α) (lo hi : Option Int) : List α := (xs.drop (HT.sIx xs.length 0 lo)).take (HT.sIx xs.length xs.length hi - HT.sIx xs.length 0 lo)
theorem RepL.cut {K : PySem.W.Frag} {G : Hp} {xs : List V} {ds : List D} (r : RepL K G xs ds) (lo hi : Option Int) : RepL K G (cutV xs lo hi) (LD.cut ds lo hi) := by
  unfold cutV LD.cut
  rw [r.length]
  exact (r.drop _).take _
abbrev TDO := List Sl → (Option Int → Prop) → Prop
structure POD (X : Cx) (e : Option Expr) (t : TDO) : Prop where
  ex : ∃ te : TO, PO X e te ∧ ∀ {G0 H0 G H : Hp} {σ : L2.St} {sd : List Sl} {Q : Option Int → Prop} {R : Option Int → Hp → Prop}, Rel X.K G0 H0 G H σ sd → t sd Q →
    (∀ G' H' d, Ext G H G' H' → Q d → R d H') → te σ H R
def dNoPart : TDO := fun _ Q => Q none
def asI : D → (Int → Prop) → Prop
  | .int i, Q => Q i
  | _, _ => False
def dPart (t : TD) : TDO := fun sd Q => t sd fun d => asI d fun i => Q (some i)
section
variable {X : Cx} {a b c : Expr} {ta tb tc : TD} {pos p2 : Pos} {lo hi : Option Expr} {tl th : TDO}
theorem pod_none : POD X none dNoPart := ⟨tNoPart, po_none, fun rl q k => k _ _ _ (.refl rl.same) q⟩
theorem pod_some (h : PB X a ta) : POD X (some a) (dPart ta) := by
  obtain ⟨te, h1, h2⟩ := h.ex
  refine ⟨tPart te, po_some h1, fun rl q k => h2 rl q fun G' H' v d ex rv z => ?_⟩
  unfold asI at z
  split at z
  · exact ⟨_, rv.int, k _ _ _ ex z⟩
  · exact z.elim
def vSl : D → Option Int → Option Int → (D → Prop) → Prop
  | .lst ds, lo, hi, Q => Q (.lst (cut ds lo hi))
  | .tup ds, lo, hi, Q => Q (.tup (cut ds lo hi))
  | .str z, lo, hi, Q => z.length ≤ sizeLine ∧ Q (.str (cutS z lo hi))
  | _, _, _, _ => False
theorem cut_whole {α : Type} {xs : List α} {lo hi : Option Int} (h : HT.sIx xs.length 0 lo = 0 ∧ HT.sIx xs.length xs.length hi = xs.length) : cut xs lo hi = xs := by
  unfold cut
  rw [h.1, h.2]
  simp
def dSlice (ta : TD) (tl th : TDO) : TD := fun sd Q => ta sd fun d => tl sd fun l => th sd fun u => vSl d l u Q
theorem pd_slice (he : PB X a ta) (hl : POD X lo tl) (hu : POD X hi th) : PD X (.Subscript a (.Slice lo hi none p2) pos) (dSlice ta tl th) := by
  obtain ⟨te, h1, h2⟩ := he.ex
  obtain ⟨te2, h3, h4⟩ := hl.ex
  obtain ⟨te3, h5, h6⟩ := hu.ex
  refine ⟨tSl (fun x lo hi H Q => (rSlL X.K x lo hi H Q ∨ rSlA X.K x lo hi H Q) ∨ rSlS x lo hi H Q) te te2 te3, pe_slice ((sl_list.or sl_tupA).or sl_str) h1 h3 h5,
    fun rl q k => h2 rl q fun G1 H1 v d e1 r1 q1 => h4 (rl.to e1) q1 fun G2 H2 l e2 q2 => h6 ((rl.to e1).to e2) q2 fun G3 H3 u e3 q3 => ?_⟩
  have ex := e1.trans (e2.trans e3)
  have rv := r1.to (e2.trans e3)
  unfold vSl at q3
  split at q3
  · obtain ⟨p, xs, rfl, hp, rs⟩ := rv.lst e3.gh
    refine .inl (.inl ⟨p, xs, rfl, SqL.of hp, fun p' hp' => ?_⟩)
    have e4 := Ext.fresh (o := .lst (cutV xs l u)) e3.gh hp'
    exact k _ _ _ _ (ex.trans e4) (.lst upd_same ((rs.cut l u).same e4.gg)) q3
  · obtain ⟨p, xs, rfl, hp, rs⟩ := rv.tup e3.gh
    refine .inl (.inr ⟨p, xs, rfl, hp, fun hw => ?_, fun hw p' hp' => ?_⟩)
    · rw [rs.length] at hw
      rw [cut_whole hw] at q3
      rcases rv with rv | ⟨_, _, h⟩
      · exact k _ _ _ _ ex rv q3
      · exact h.elim
    · have e4 := Ext.fresh (o := .tup (cutV xs l u)) e3.gh hp'
      exact k _ _ _ _ (ex.trans e4) (.tup (SqT.of upd_same) ((rs.cut l u).same e4.gg)) q3
  · exact .inr ⟨_, rv.str, q3.1, k _ _ _ _ ex (.str _) q3.2⟩
  · exact q3.elim
end

/-! ### calls of built-ins by name -/
def VC (K : PySem.W.Frag) (r : List V → Hp → VK → Prop) (tv : List D → (D → Prop) → Prop) : Prop :=
  ∀ {G H : Hp} {vs : List V} {ds : List D} {Q : D → Prop} {R : VK}, Same G H → Paired (RepB K G H) vs ds → tv ds Q → (∀ G' H' v d', Ext G H G' H' → Rep K G' v d' → Q d' → R v H') → r vs H R
/-- .. that make a new object -/
def VCF (K : PySem.W.Frag) (r : List V → Hp → VK → Prop) (tv : List D → (D → Prop) → Prop) : Prop :=
  ∀ {G H : Hp} {vs : List V} {ds : List D} {Q : D → Prop} {R : VK}, Same G H → Paired (RepB K G H) vs ds → tv ds Q →
    (∀ G' H' p d', Ext G H G' H' → OwnAt K G' H' p d' → H p = none → G' p = none → Q d' → R (.ref p) H') → r vs H R
def dCall (tv : List D → (D → Prop) → Prop) (t : TDL) : TD := fun sd Q => t sd fun ds => tv ds Q
section
variable {X : Cx} {x : Str} {p pos : Pos} {e : Expr} {es : List Expr} {t : TDL} {id T : String} {r : List V → Hp → VK → Prop} {tv : List D → (D → Prop) → Prop}
theorem pd_callB (hc : CallR X (.builtin id) r) (hv' : VC X.K r tv) (hg : Gl X x) (hm : X.mg x = none) (hv : bootBuiltins x = some (.builtin id)) (ha : PAB X (e :: es) t) (hn : x ≠ "__name__" := by decide) (hdb : (x == ("__debug__" : Str)) = false := by decide)
    (he : starEach (e :: es) X.env = (false, eval e X.env) :: starEach es X.env := by rfl) (hpl : (backTo pos (starEach es X.env)).any (·.1) = false := by rfl) : PD X (.Call (.Name x p) (e :: es) [] pos) (dCall tv t) := by
  obtain ⟨te, h1, h2⟩ := ha.ex
  exact ⟨tCB r te, pe_callB hc hg hm hv h1 hn hdb he hpl, fun rl q k => h2 rl q fun G' H' vs ds ex rs z => hv' ex.gh rs z fun G2 H2 v d e2 rp w => k _ _ _ _ (ex.trans e2) rp w⟩
theorem pd_callTy (hc : CallR X (.type T) r) (hv' : VC X.K r tv) (hg : Gl X x) (hm : X.mg x = none) (hv : bootBuiltins x = some (.type T)) (ha : PAB X (e :: es) t) (hn : x ≠ "__name__" := by decide) (hdb : (x == ("__debug__" : Str)) = false := by decide)
    (he : starEach (e :: es) X.env = (false, eval e X.env) :: starEach es X.env := by rfl) (hpl : (backTo pos (starEach es X.env)).any (·.1) = false := by rfl) : PD X (.Call (.Name x p) (e :: es) [] pos) (dCall tv t) := by
  obtain ⟨te, h1, h2⟩ := ha.ex
  exact ⟨tCB r te, pe_callTy hc hg hm hv h1 hn hdb he hpl, fun rl q k => h2 rl q fun G' H' vs ds ex rs z => hv' ex.gh rs z fun G2 H2 v d e2 rp w => k _ _ _ _ (ex.trans e2) rp w⟩
theorem pf_callTy (hc : CallR X (.type T) r) (hv' : VCF X.K r tv) (hg : Gl X x) (hm : X.mg x = none) (hv : bootBuiltins x = some (.type T)) (ha : PAB X (e :: es) t) (hn : x ≠ "__name__" := by decide) (hdb : (x == ("__debug__" : Str)) = false := by decide)
    (he : starEach (e :: es) X.env = (false, eval e X.env) :: starEach es X.env := by rfl) (hpl : (backTo pos (starEach es X.env)).any (·.1) = false := by rfl) : PF X (.Call (.Name x p) (e :: es) [] pos) (dCall tv t) := by
  obtain ⟨te, h1, h2⟩ := ha.ex
  exact ⟨tCB r te, pe_callTy hc hg hm hv h1 hn hdb he hpl, fun rl q k => h2 rl q fun G' H' vs ds ex rs z => hv' ex.gh rs z fun G2 H2 v d e2 rp hn hg w => k _ _ _ _ (ex.trans e2) rp (ex.hh.free hn) hg w⟩
theorem pf_callB (hc : CallR X (.builtin id) r) (hv' : VCF X.K r tv) (hg : Gl X x) (hm : X.mg x = none) (hv : bootBuiltins x = some (.builtin id)) (ha : PAB X (e :: es) t) (hn : x ≠ "__name__" := by decide) (hdb : (x == ("__debug__" : Str)) = false := by decide)
    (he : starEach (e :: es) X.env = (false, eval e X.env) :: starEach es X.env := by rfl) (hpl : (backTo pos (starEach es X.env)).any (·.1) = false := by rfl) : PF X (.Call (.Name x p) (e :: es) [] pos) (dCall tv t) := by
  obtain ⟨te, h1, h2⟩ := ha.ex
  exact ⟨tCB r te, pe_callB hc hg hm hv h1 hn hdb he hpl, fun rl q k => h2 rl q fun G' H' vs ds ex rs z => hv' ex.gh rs z fun G2 H2 v d e2 rp hn hg w => k _ _ _ _ (ex.trans e2) rp (ex.hh.free hn) hg w⟩
end
theorem pair1 {K : PySem.W.Frag} {G H : Hp} {vs : List V} {d : D} (h : Paired (RepB K G H) vs [d]) : ∃ v, vs = [v] ∧ RepB K G H v d := by
  cases h with
  | cons a b => cases b; exact ⟨_, rfl, a⟩
theorem pair2 {K : PySem.W.Frag} {G H : Hp} {vs : List V} {d e : D} (h : Paired (RepB K G H) vs [d, e]) : ∃ v u, vs = [v, u] ∧ RepB K G H v d ∧ RepB K G H u e := by
  cases h with
  | cons a b => obtain ⟨u, rfl, r⟩ := pair1 b; exact ⟨_, _, rfl, a, r⟩
/-- len -/
def vLen : List D → (D → Prop) → Prop
  | [.lst ds], Q => Q (.int ds.length)
  | [.tup ds], Q => Q (.int ds.length)
  | [.scr ds], Q => Q (.int ds.length)
  | [.str z], Q => z.length ≤ sizeLine ∧ Q (.int z.length)
  | _, _ => False
def rLenD (K : PySem.W.Frag) : List V → Hp → VK → Prop := fun xs H Q => ∃ x n, xs = [x] ∧ LenV K x H n ∧ Q (.int n) H
theorem v_len {K : PySem.W.Frag} : VC K (rLenD K) vLen := by
  intro G H vs ds Q R s rs q k
  unfold vLen at q
  split at q
  · obtain ⟨v, rfl, rv⟩ := pair1 rs
    obtain ⟨p, xs, rfl, h1, r1⟩ := rv.lst s
    exact ⟨_, xs.length, rfl, .inl ⟨xs, SqL.of h1, rfl⟩, by rw [r1.length]; exact k G H _ _ (.refl s) (.int _) q⟩
  · obtain ⟨v, rfl, rv⟩ := pair1 rs
    obtain ⟨p, xs, rfl, h1, r1⟩ := rv.tup s
    exact ⟨_, xs.length, rfl, .inr ⟨xs, h1, rfl⟩, by rw [r1.length]; exact k G H _ _ (.refl s) (.int _) q⟩
  · obtain ⟨v, rfl, rv⟩ := pair1 rs
    obtain ⟨p, xs, rfl, h1, r1⟩ := rv.scr s
    exact ⟨_, xs.length, rfl, .inl ⟨xs, h1, rfl⟩, by rw [r1.length]; exact k G H _ _ (.refl s) (.int _) q⟩
  · obtain ⟨v, rfl, rv⟩ := pair1 rs
    cases rv.str
    exact ⟨_, _, rfl, ⟨q.1, rfl⟩, k G H _ _ (.refl s) (.int _) q.2⟩
  · exact q.elim
/-- tuple(x) -/
def vTup : List D → (D → Prop) → Prop
  | [.lst ds], Q => Q (.tup ds)
  | [.tup ds], Q => Q (.tup ds)
  | [.scr ds], Q => Q (.tup ds)
  | _, _ => False
def rTupD (K : PySem.W.Frag) : List V → Hp → VK → Prop := fun xs H Q => ∃ p ys, xs = [.ref p] ∧ ((SqL K H p ys ∧ ∀ l, H l = none → Q (.ref l) (upd H l (.tup ys))) ∨ (SqT K H p ys ∧ Q (.ref p) H))
theorem v_tup {K : PySem.W.Frag} : VC K (rTupD K) vTup := by
  intro G H vs ds Q R s rs q k
  unfold vTup at q
  split at q
  · obtain ⟨v, rfl, rv⟩ := pair1 rs
    obtain ⟨p, xs, rfl, h1, r1⟩ := rv.lst s
    refine ⟨p, xs, rfl, .inl ⟨SqL.of h1, fun l hl => ?_⟩⟩
    have e4 := Ext.fresh (o := .tup xs) s hl
    exact k _ _ _ _ e4 (.tup (SqT.of upd_same) (r1.same e4.gg)) q
  · obtain ⟨v, rfl, rv⟩ := pair1 rs
    obtain ⟨p, xs, rfl, h1, r1⟩ := rv.tup s
    refine ⟨p, xs, rfl, .inr ⟨h1, ?_⟩⟩
    rcases rv with rv | ⟨_, _, h⟩
    · exact k _ _ _ _ (.refl s) rv q
    · exact h.elim
  · obtain ⟨v, rfl, rv⟩ := pair1 rs
    obtain ⟨p, xs, rfl, h1, r1⟩ := rv.scr s
    refine ⟨p, xs, rfl, .inl ⟨h1, fun l hl => ?_⟩⟩
    have e4 := Ext.fresh (o := .tup xs) s hl
    exact k _ _ _ _ e4 (.tup (SqT.of upd_same) (r1.same e4.gg)) q
  · exact q.elim
/-- list(x) -/
def vLst : List D → (D → Prop) → Prop
  | [.lst ds], Q => Q (.lst ds)
  | [.tup ds], Q => Q (.lst ds)
  | [.scr ds], Q => Q (.lst ds)
  | _, _ => False
def rLstD (K : PySem.W.Frag) : List V → Hp → VK → Prop := fun xs H Q => ∃ p ys, xs = [.ref p] ∧ (SqL K H p ys ∨ SqT K H p ys) ∧ ∀ l, H l = none → Q (.ref l) (upd H l (.lst ys))
theorem v_lst {K : PySem.W.Frag} : VCF K (rLstD K) vLst := by
  intro G H vs ds Q R s rs q k
  unfold vLst at q
  split at q
  · obtain ⟨v, rfl, rv⟩ := pair1 rs
    obtain ⟨p, xs, rfl, h1, r1⟩ := rv.lst s
    exact ⟨p, xs, rfl, .inl (SqL.of h1), fun l hl => k _ _ _ (.lst _) (Ext.loose s hl) ⟨xs, upd_same, r1⟩ hl (s.free hl) q⟩
  · obtain ⟨v, rfl, rv⟩ := pair1 rs
    obtain ⟨p, xs, rfl, h1, r1⟩ := rv.tup s
    exact ⟨p, xs, rfl, .inr h1, fun l hl => k _ _ _ (.lst _) (Ext.loose s hl) ⟨xs, upd_same, r1⟩ hl (s.free hl) q⟩
  · obtain ⟨v, rfl, rv⟩ := pair1 rs
    obtain ⟨p, xs, rfl, h1, r1⟩ := rv.scr s
    exact ⟨p, xs, rfl, .inl h1, fun l hl => k _ _ _ (.lst _) (Ext.loose s hl) ⟨xs, upd_same, r1⟩ hl (s.free hl) q⟩
  · exact q.elim
/-- all, any of a list of bools -/
def vAll : List D → (D → Prop) → Prop := fun ds Q => ∃ bs : List Bool, ds = [.lst (bs.map D.bl)] ∧ Q (.bl (bs.all id))
def vAny : List D → (D → Prop) → Prop := fun ds Q => ∃ bs : List Bool, ds = [.lst (bs.map D.bl)] ∧ Q (.bl (bs.any id))
theorem v_all {K : PySem.W.Frag} : VC K (rAll K) vAll := by
  intro G H vs ds Q R s rs q k
  obtain ⟨bs, rfl, q⟩ := q
  obtain ⟨v, rfl, rv⟩ := pair1 rs
  obtain ⟨p, xs, rfl, h1, r1⟩ := rv.lst s
  rw [r1.bls] at h1
  exact ⟨p, bs, rfl, SqL.of h1, k G H _ _ (.refl s) (.bl _) q⟩
theorem v_any {K : PySem.W.Frag} : VC K (rAny K) vAny := by
  intro G H vs ds Q R s rs q k
  obtain ⟨bs, rfl, q⟩ := q
  obtain ⟨v, rfl, rv⟩ := pair1 rs
  obtain ⟨p, xs, rfl, h1, r1⟩ := rv.lst s
  rw [r1.bls] at h1
  exact ⟨p, bs, rfl, SqL.of h1, k G H _ _ (.refl s) (.bl _) q⟩
/-- sum, max, min of a list of ints -/
def vSum : List D → (D → Prop) → Prop := fun ds Q => ∃ ns : List Int, ds = [.lst (ns.map D.int)] ∧ Q (.int ns.sum)
def vMax : List D → (D → Prop) → Prop := fun ds Q => ∃ ns : List Int, ds = [.lst (ns.map D.int)] ∧ 0 < ns.length ∧ ∀ m, m ∈ ns → (∀ y, y ∈ ns → y ≤ m) → Q (.int m)
def vMin : List D → (D → Prop) → Prop := fun ds Q => ∃ ns : List Int, ds = [.lst (ns.map D.int)] ∧ 0 < ns.length ∧ ∀ m, m ∈ ns → (∀ y, y ∈ ns → m ≤ y) → Q (.int m)
theorem v_sum {K : PySem.W.Frag} : VC K (rSum K) vSum := by
  intro G H vs ds Q R s rs q k
  obtain ⟨bs, rfl, q⟩ := q
  obtain ⟨v, rfl, rv⟩ := pair1 rs
  obtain ⟨p, xs, rfl, h1, r1⟩ := rv.lst s
  rw [r1.ints] at h1
  exact ⟨p, bs, rfl, SqL.of h1, k G H _ _ (.refl s) (.int _) q⟩
theorem v_max {K : PySem.W.Frag} : VC K (rMax K) vMax := by
  intro G H vs ds Q R s rs q k
  obtain ⟨bs, rfl, hl, q⟩ := q
  obtain ⟨v, rfl, rv⟩ := pair1 rs
  obtain ⟨p, xs, rfl, h1, r1⟩ := rv.lst s
  rw [r1.ints] at h1
  exact ⟨p, bs, rfl, SqL.of h1, hl, fun m hm h => k G H _ _ (.refl s) (.int _) (q m hm h)⟩
theorem v_min {K : PySem.W.Frag} : VC K (rMin K) vMin := by
  intro G H vs ds Q R s rs q k
  obtain ⟨bs, rfl, hl, q⟩ := q
  obtain ⟨v, rfl, rv⟩ := pair1 rs
  obtain ⟨p, xs, rfl, h1, r1⟩ := rv.lst s
  rw [r1.ints] at h1
  exact ⟨p, bs, rfl, SqL.of h1, hl, fun m hm h => k G H _ _ (.refl s) (.int _) (q m hm h)⟩
def vMax2 : List D → (D → Prop) → Prop
  | [.int i, .int j], Q => Q (.int (if j > i then j else i))
  | _, _ => False
def vMin2 : List D → (D → Prop) → Prop
  | [.int i, .int j], Q => Q (.int (if j < i then j else i))
  | _, _ => False
theorem v_max2 {K : PySem.W.Frag} : VC K (fun xs H Q => ∃ i j, xs = [.int i, .int j] ∧ Q (.int (if j > i then j else i)) H) vMax2 := by
  intro G H vs ds Q R s rs q k
  unfold vMax2 at q
  split at q
  · obtain ⟨v, u, rfl, rv, ru⟩ := pair2 rs
    cases rv.int; cases ru.int
    exact ⟨_, _, rfl, k G H _ _ (.refl s) (.int _) q⟩
  · exact q.elim
theorem v_min2 {K : PySem.W.Frag} : VC K (fun xs H Q => ∃ i j, xs = [.int i, .int j] ∧ Q (.int (if j < i then j else i)) H) vMin2 := by
  intro G H vs ds Q R s rs q k
  unfold vMin2 at q
  split at q
  · obtain ⟨v, u, rfl, rv, ru⟩ := pair2 rs
    cases rv.int; cases ru.int
    exact ⟨_, _, rfl, k G H _ _ (.refl s) (.int _) q⟩
  · exact q.elim
/-- int(n), int(flag) -/
def vInt : List D → (D → Prop) → Prop
  | [.int i], Q => Q (.int i)
  | _, _ => False
theorem v_toInt {K : PySem.W.Frag} : VC K (fun xs H Q => (∃ i, xs = [.int i] ∧ Q (.int i) H) ∨ ∃ k, xs = [.bl k] ∧ Q (.int (if k then 1 else 0)) H) vInt := by
  intro G H vs ds Q R s rs q k
  unfold vInt at q
  split at q
  · obtain ⟨v, rfl, rv⟩ := pair1 rs
    cases rv.int
    exact .inl ⟨_, rfl, k G H _ _ (.refl s) (.int _) q⟩
  · exact q.elim
section
variable {X : Cx} {p pos : Pos} {e e2 : Expr} {es : List Expr} {t : TDL}
theorem pd_len (hg : Gl X "len") (hm : X.mg "len" = none) (ha : PAB X [e] t) (he : starEach [e] X.env = (false, eval e X.env) :: starEach [] X.env := by rfl) : PD X (.Call (.Name "len" p) [e] [] pos) (dCall vLen t) := pd_callB call_len v_len hg hm boot_len ha (he := he)
theorem pd_tuple (hg : Gl X "tuple") (hm : X.mg "tuple" = none) (ha : PAB X [e] t) (he : starEach [e] X.env = (false, eval e X.env) :: starEach [] X.env := by rfl) : PD X (.Call (.Name "tuple" p) [e] [] pos) (dCall vTup t) := pd_callTy call_tuple_of v_tup hg hm (by decide +kernel) ha (he := he)
theorem pf_list (hg : Gl X "list") (hm : X.mg "list" = none) (ha : PAB X [e] t) (he : starEach [e] X.env = (false, eval e X.env) :: starEach [] X.env := by rfl) : PF X (.Call (.Name "list" p) [e] [] pos) (dCall vLst t) := pf_callTy call_list_of v_lst hg hm (by decide +kernel) ha (he := he)
theorem pd_all (hc : X.calm = true) (hg : Gl X "all") (hm : X.mg "all" = none) (ha : PAB X [e] t) (he : starEach [e] X.env = (false, eval e X.env) :: starEach [] X.env := by rfl) : PD X (.Call (.Name "all" p) [e] [] pos) (dCall vAll t) := pd_callB (cr_all hc) v_all hg hm (by decide +kernel) ha (he := he)
theorem pd_any (hc : X.calm = true) (hg : Gl X "any") (hm : X.mg "any" = none) (ha : PAB X [e] t) (he : starEach [e] X.env = (false, eval e X.env) :: starEach [] X.env := by rfl) : PD X (.Call (.Name "any" p) [e] [] pos) (dCall vAny t) := pd_callB (cr_any hc) v_any hg hm (by decide +kernel) ha (he := he)
theorem pd_sum (hc : X.calm = true) (hg : Gl X "sum") (hm : X.mg "sum" = none) (ha : PAB X [e] t) (he : starEach [e] X.env = (false, eval e X.env) :: starEach [] X.env := by rfl) : PD X (.Call (.Name "sum" p) [e] [] pos) (dCall vSum t) := pd_callB (cr_sum hc) v_sum hg hm (by decide +kernel) ha (he := he)
theorem pd_max (hc : X.calm = true) (hg : Gl X "max") (hm : X.mg "max" = none) (ha : PAB X [e] t) (he : starEach [e] X.env = (false, eval e X.env) :: starEach [] X.env := by rfl) : PD X (.Call (.Name "max" p) [e] [] pos) (dCall vMax t) := pd_callB (cr_max hc) v_max hg hm (by decide +kernel) ha (he := he)
theorem pd_min (hc : X.calm = true) (hg : Gl X "min") (hm : X.mg "min" = none) (ha : PAB X [e] t) (he : starEach [e] X.env = (false, eval e X.env) :: starEach [] X.env := by rfl) : PD X (.Call (.Name "min" p) [e] [] pos) (dCall vMin t) := pd_callB (cr_min hc) v_min hg hm (by decide +kernel) ha (he := he)
theorem pd_max2 (hc : X.calm = true) (hg : Gl X "max") (hm : X.mg "max" = none) (ha : PAB X [e, e2] t) (he : starEach [e, e2] X.env = (false, eval e X.env) :: starEach [e2] X.env := by rfl) (hpl : (backTo pos (starEach [e2] X.env)).any (·.1) = false := by rfl) : PD X (.Call (.Name "max" p) [e, e2] [] pos) (dCall vMax2 t) := pd_callB (call_max2 hc) v_max2 hg hm (by decide +kernel) ha (he := he) (hpl := hpl)
theorem pd_min2 (hc : X.calm = true) (hg : Gl X "min") (hm : X.mg "min" = none) (ha : PAB X [e, e2] t) (he : starEach [e, e2] X.env = (false, eval e X.env) :: starEach [e2] X.env := by rfl) (hpl : (backTo pos (starEach [e2] X.env)).any (·.1) = false := by rfl) : PD X (.Call (.Name "min" p) [e, e2] [] pos) (dCall vMin2 t) := pd_callB (call_min2 hc) v_min2 hg hm (by decide +kernel) ha (he := he) (hpl := hpl)
theorem pd_toInt (hg : Gl X "int") (hm : X.mg "int" = none) (ha : PAB X [e] t) (he : starEach [e] X.env = (false, eval e X.env) :: starEach [] X.env := by rfl) : PD X (.Call (.Name "int" p) [e] [] pos) (dCall vInt t) := pd_callTy call_int1 v_toInt hg hm (by decide +kernel) ha (he := he)
end

/-! ### calls of one's own defs -/
def spOf (K : PySem.W.Frag) (sp : List D → (D → Prop) → Prop) : Sp := fun vs H Q _ => ∃ (G : Hp) (ds : List D) (QD : D → Prop), Same G H ∧ RepL K G vs ds ∧ sp ds QD ∧ ∀ G' H' v d, Ext G H G' H' → Rep K G' v d → QD d → Q v H'
/-- the def of that name keeps its promise -/
structure Df (P : Program) (w : World) (K : PySem.W.Frag) (mg : Str → Option Value) (base : Heap) (k : Nat) (x : Str) (sp : List D → (D → Prop) → Prop) : Prop where
  ex : ∃ (f : Addr) (fd : FuncData) (ps : List Str), FnOk P w K mg base CX0 k f fd ps (spOf K sp) ∧ mg x = some (.ref f) ∧ PySem.W.keepIn K (.ref f) = true ∧ Binds K fd ps []
theorem Df.mono {P : Program} {w : World} {K : PySem.W.Frag} {mg : Str → Option Value} {base : Heap} {j k : Nat} {x : Str} {sp : List D → (D → Prop) → Prop} (F : Df P w K mg base j x sp) (h : j ≤ k) : Df P w K mg base k x sp := by
  obtain ⟨f, fd, ps, F, a, b, c⟩ := F.ex
  exact ⟨f, fd, ps, F.mono h, a, b, c⟩
def flatD : D → Bool
  | .non => true
  | .bl _ => true
  | .int _ => true
  | .str _ => true
  | _ => false
theorem Rep.flat {K : PySem.W.Frag} {G G' : Hp} {v : V} {d : D} (h : Rep K G v d) (f : flatD d = true) : Rep K G' v d := by
  cases h with
  | non => exact .non
  | bl b => exact .bl b
  | int i => exact .int i
  | str i => exact .str i
  | _ => simp [flatD] at f
section
variable {X : Cx} {x : Str} {p pos : Pos} {e : Expr} {es : List Expr} {t : TDL} {k : Nat} {sp : List D → (D → Prop) → Prop}
theorem pd_call (F : Df X.prog X.w X.K X.mg X.base k x sp) (hr : Room k X.A) (hg : Gl X x) (ha : PAD X (e :: es) t) (hdb : (x == ("__debug__" : Str)) = false := by decide)
    (he : starEach (e :: es) X.env = (false, eval e X.env) :: starEach es X.env := by rfl) (hpl : (backTo pos (starEach es X.env)).any (·.1) = false := by rfl) : PD X (.Call (.Name x p) (e :: es) [] pos) (dCall sp t) := by
  obtain ⟨f, fd, ps, F, hm, hk, hb⟩ := F.ex
  obtain ⟨te, h1, h2⟩ := ha.ex
  refine ⟨tCall (spOf X.K sp) [] E0 te, pe_call F hr hg hm hk hb .nil pass0 h1 hdb he hpl, fun rl q kk => h2 rl q fun G' H' vs ds ex rs z => ?_⟩
  show spOf X.K sp (vs ++ []) H' _ _
  rw [List.append_nil]
  exact ⟨G', ds, _, ex.gh, rs, z, fun G2 H2 v d e2 rp w => kk G2 H2 v d (ex.trans e2) rp w⟩
/-- .. with one's own lists among the arguments; the answer is flat -/
def dCallFl (sp : List D → (D → Prop) → Prop) (t : TDL) : TD := fun sd Q => t sd fun ds => sp ds fun d => flatD d = true ∧ Q d
theorem RepBs.rep {K : PySem.W.Frag} {G H : Hp} (s : Same G H) : ∀ {vs : List V} {ds : List D}, Paired (RepB K G H) vs ds → RepL K H vs ds
  | _, _, .nil => .nil
  | _, _, .cons a b => .cons (a.rep s) (RepBs.rep s b)
/-- what a call makes of G, where it was handed all that is tracked -/
theorem callAll {G H G' H' : Hp} (s : Same G H) (e : Ext H H G' H') : Ext G H G H' := ⟨e.hh, .refl _, s.trans e.hh, fun _ _ z => .inl z⟩
theorem pd_callFl (F : Df X.prog X.w X.K X.mg X.base k x sp) (hr : Room k X.A) (hg : Gl X x) (ha : PAB X (e :: es) t) (hdb : (x == ("__debug__" : Str)) = false := by decide)
    (he : starEach (e :: es) X.env = (false, eval e X.env) :: starEach es X.env := by rfl) (hpl : (backTo pos (starEach es X.env)).any (·.1) = false := by rfl) : PD X (.Call (.Name x p) (e :: es) [] pos) (dCallFl sp t) := by
  obtain ⟨f, fd, ps, F, hm, hk, hb⟩ := F.ex
  obtain ⟨te, h1, h2⟩ := ha.ex
  refine ⟨tCall (spOf X.K sp) [] E0 te, pe_call F hr hg hm hk hb .nil pass0 h1 hdb he hpl, fun rl q kk => h2 rl q fun G' H' vs ds ex rs z => ?_⟩
  show spOf X.K sp (vs ++ []) H' _ _
  rw [List.append_nil]
  exact ⟨H', ds, _, .refl _, RepBs.rep ex.gh rs, z, fun G2 H2 v d e2 rp w => kk G' H2 v d (ex.trans (callAll ex.gh e2)) (rp.flat w.1) w.2⟩
end
end LD

namespace LD
open PySem PySem.Spec L2

/-! ### statements -/
structure DE where
  nx : List Sl → Prop
  rt : D → Prop
  bk : List Sl → Prop := fun _ => False
  ct : List Sl → Prop := fun _ => False
abbrev TSD := DE → List Sl → Prop
structure EndsOk (K : PySem.W.Frag) (G0 H0 Gs : Hp) (Dd : DE) (D : Ends) : Prop where
  nx : ∀ (G H : Hp) (σ : L2.St) (sd : List Sl), Same Gs G → Rel K G0 H0 G H σ sd → Dd.nx sd → D.nx σ H
  rt : ∀ (G H : Hp) (v : V) (d : LD.D), Same Gs G → Ext G0 H0 G H → Rep K G v d → Dd.rt d → D.rt v H
  bk : ∀ (G H : Hp) (σ : L2.St) (sd : List Sl), Same Gs G → Rel K G0 H0 G H σ sd → Dd.bk sd → D.bk σ H
  ct : ∀ (G H : Hp) (σ : L2.St) (sd : List Sl), Same Gs G → Rel K G0 H0 G H σ sd → Dd.ct sd → D.ct σ H
theorem EndsOk.mono {K : PySem.W.Frag} {G0 H0 Gs Gt : Hp} {Dd : DE} {D : Ends} (h : EndsOk K G0 H0 Gs Dd D) (s : Same Gs Gt) : EndsOk K G0 H0 Gt Dd D :=
  ⟨fun G H σ sd q => h.nx G H σ sd (s.trans q), fun G H v d q => h.rt G H v d (s.trans q), fun G H σ sd q => h.bk G H σ sd (s.trans q), fun G H σ sd q => h.ct G H σ sd (s.trans q)⟩
structure PSD (X : Cx) (st : Stmt) (t : TSD) : Prop where
  ex : ∃ ts : TS, PS X st ts ∧ ∀ {Gs G0 H0 G H : Hp} {σ : L2.St} {sd : List Sl} {Dd : DE} {D : Ends}, Same Gs G → Rel X.K G0 H0 G H σ sd → EndsOk X.K G0 H0 Gs Dd D → t Dd sd → ts D σ H
structure PSsD (X : Cx) (st : List Stmt) (t : TSD) : Prop where
  ex : ∃ ts : TS, PSs X st ts ∧ ∀ {Gs G0 H0 G H : Hp} {σ : L2.St} {sd : List Sl} {Dd : DE} {D : Ends}, Same Gs G → Rel X.K G0 H0 G H σ sd → EndsOk X.K G0 H0 Gs Dd D → t Dd sd → ts D σ H
def dNext : TSD := fun D sd => D.nx sd
def dSeq (t u : TSD) : TSD := fun D sd => t { D with nx := u D } sd
section
variable {X : Cx} {st : Stmt} {rest : List Stmt} {t u : TSD} {pos : Pos} {e : Expr} {te : TD}
theorem pssd_nil : PSsD X [] dNext := ⟨tNext, pss_nil, fun s r o q => o.nx _ _ _ _ s r q⟩
theorem pssd_cons (h1 : PSD X st t) (h2 : PSsD X rest u) : PSsD X (st :: rest) (dSeq t u) := by
  obtain ⟨t1, a1, a2⟩ := h1.ex
  obtain ⟨t2, b1, b2⟩ := h2.ex
  refine ⟨tSeq t1 t2, pss_cons a1 b1, fun {Gs G0 H0 G H σ sd Dd D} s r o q => a2 (Dd := { Dd with nx := u Dd }) s r ⟨fun G' H' σ' sd' s' r' q' => b2 s' r' o q', o.rt, o.bk, o.ct⟩ q⟩
theorem pssd_one (h : PSD X st t) : PSsD X [st] t := by
  obtain ⟨t1, a1, a2⟩ := h.ex
  exact ⟨t1, pss_one a1, a2⟩
theorem psd_pass : PSD X (.Pass pos) dNext := ⟨tNext, ps_pass, fun s r o q => o.nx _ _ _ _ s r q⟩
def dBreak : TSD := fun D sd => D.bk sd
def dCont : TSD := fun D sd => D.ct sd
theorem psd_break : PSD X (.Break pos) dBreak := ⟨tBreak, ps_break, fun s r o q => o.bk _ _ _ _ s r q⟩
theorem psd_continue : PSD X (.Continue pos) dCont := ⟨tCont, ps_continue, fun s r o q => o.ct _ _ _ _ s r q⟩
def dDrop (te : TD) : TSD := fun D sd => te sd fun _ => D.nx sd
theorem psd_expr (he : PB X e te) (hs : swapsWith e none pos.line X.env = pure false := by rfl) : PSD X (.Expr e pos) (dDrop te) := by
  obtain ⟨t1, a1, a2⟩ := he.ex
  exact ⟨tDrop t1, ps_expr a1 hs, fun s r o q => a2 r q fun G' H' v d ex rv z => o.nx _ _ _ _ (s.trans ex.gg) (r.to ex) z⟩
def dRet (te : TD) : TSD := fun D sd => te sd D.rt
theorem psd_ret (he : PD X e te) : PSD X (.Return (some e) pos) (dRet te) := by
  obtain ⟨t1, a1, a2⟩ := he.ex
  exact ⟨tRet t1, ps_ret a1, fun s r o q => a2 r q fun G' H' v d ex rv z => o.rt _ _ _ _ (s.trans ex.gg) (r.to ex).ext rv z⟩
def dRetN : TSD := fun D _ => D.rt .non
theorem psd_retN : PSD X (.Return none pos) dRetN := ⟨tRetN, ps_retN, fun s r o q => o.rt _ _ _ _ s r.ext .non q⟩
def dIfS (c : TDB) (t u : TSD) : TSD := fun D sd => c sd fun b => ifB b (t D sd) (u D sd)
theorem psd_if {c : Expr} {a b : List Stmt} {tc : TDB} (hc : PTD X c tc) (ha : PSsD X a t) (hb : PSsD X b u) : PSD X (.If c a b pos) (dIfS tc t u) := by
  obtain ⟨t1, a1, a2⟩ := hc.ex
  obtain ⟨t2, b1, b2⟩ := ha.ex
  obtain ⟨t3, c1, c2⟩ := hb.ex
  refine ⟨tIfS t1 t2 t3, ps_if a1 b1 c1, fun s r o q => a2 r q fun G' H' b ex z => ?_⟩
  cases b with
  | true => rw [ifB_t] at z; refine iteT ?_; exact b2 (s.trans ex.gg) (r.to ex) o z
  | false => rw [ifB_f] at z; refine iteF ?_; exact c2 (s.trans ex.gg) (r.to ex) o z
def dNever : TSD := fun _ _ => False
theorem psd_never : PSD X st dNever := ⟨tNever, ps_never, fun _ _ _ q => q.elim⟩
theorem pssd_never {sts : List Stmt} : PSsD X sts dNever := ⟨tNever, pss_never, fun _ _ _ q => q.elim⟩
/-- ahead of a statement one's own list at slot i stands for good -/
def frz (i : Nat) (sd : List Sl) : List Sl := match sd[i]? with | some (.own d) => sd.set i (.dat d) | _ => sd
def dFrz (i : Nat) (t : TSD) : TSD := fun D sd => t D (frz i sd)
theorem psd_frz (i : Nat) (h : PSD X st t) : PSD X st (dFrz i t) := by
  obtain ⟨t1, a1, a2⟩ := h.ex
  refine ⟨t1, a1, fun {Gs G0 H0 G H σ sd Dd D} s r o q => ?_⟩
  unfold dFrz frz at q
  split at q
  · rename_i d hd
    obtain ⟨G', sg, r'⟩ := r.freeze hd
    exact a2 (s.trans sg) r' o q
  · exact a2 s r o q

/-! ### what comes into a slot -/
def RepS (K : PySem.W.Frag) (H G' H' : Hp) (v : V) : Sl → Prop
  | .no => True
  | .dat d => Rep K G' v d
  | .own d => ∃ p, v = .ref p ∧ OwnAt K G' H' p d ∧ H p = none ∧ G' p = none
theorem RepS.to {K : PySem.W.Frag} {H G' H' G2 H2 : Hp} {v : V} : ∀ {s : Sl}, RepS K H G' H' v s → Ext G' H' G2 H2 → RepS K H G2 H2 v s
  | .no, _, _ => trivial
  | .dat _, h, e => Rep.same e.gg h
  | .own _, ⟨p, a, b, c, d⟩, e => by
    refine ⟨p, a, b.ext e, c, ?_⟩
    obtain ⟨o, ho⟩ := b.some
    cases q : G2 p with
    | none => rfl
    | some u =>
      rcases e.new p u q with z | z
      · rw [d] at z; cases z
      · rw [ho] at z; cases z
theorem Rel.setS {K : PySem.W.Frag} {G0 H0 G H G' H' : Hp} {σ : L2.St} {sd : List Sl} (r : Rel K G0 H0 G H σ sd) (e : Ext G H G' H') {v : V} : ∀ {s : Sl}, RepS K H G' H' v s → ∀ i, Rel K G0 H0 G' H' (σ.set i (some v)) (sd.set i s)
  | .no, _, i => (r.to e).setNo i _
  | .dat _, h, i => (r.to e).setDat h i
  | .own _, ⟨p, a, b, c, d⟩, i => by subst a; exact r.setOwn e b c d i
abbrev TV := List Sl → (Sl → Prop) → Prop
structure PV (X : Cx) (e : Expr) (t : TV) : Prop where
  ex : ∃ te : TE, PE X e te ∧ ∀ {G0 H0 G H : Hp} {σ : L2.St} {sd : List Sl} {Q : Sl → Prop} {R : VK}, Rel X.K G0 H0 G H σ sd → t sd Q →
    (∀ G' H' v s, Ext G H G' H' → RepS X.K H G' H' v s → Q s → R v H') → te σ H R
def vD (t : TD) : TV := fun sd Q => t sd fun d => Q (.dat d)
def vF (t : TD) : TV := fun sd Q => t sd fun d => Q (.own d)
theorem PD.pv (h : PD X e te) : PV X e (vD te) := by
  obtain ⟨t1, a1, a2⟩ := h.ex
  exact ⟨t1, a1, fun r q k => a2 r q fun G' H' v d ex rv z => k G' H' v (.dat d) ex rv z⟩
theorem PF.pv (h : PF X e te) : PV X e (vF te) := by
  obtain ⟨t1, a1, a2⟩ := h.ex
  exact ⟨t1, a1, fun r q k => a2 r q fun G' H' p d ex ro hn hg z => k G' H' _ (.own d) ex ⟨p, rfl, ro, hn, hg⟩ z⟩
def dSet (i : Nat) (t : TV) : TSD := fun D sd => t sd fun s => D.nx (sd.set i s)
theorem psd_set {i : Nat} {x : Str} {tv : TV} {pos' : Pos} (hN : X.N.Nodup) (hi : X.N[i]? = some x) (hx : Loc X.env.scope x) (he : PV X e tv) (hs : swapsWith e (some (.Name x pos')) pos.line X.env = pure false := by rfl) (hf : X.fn x = true ∨ X.env.scope.names.lookup x = some .local := by first | exact .inl rfl | exact .inr rfl | assumption) :
    PSD X (.Assign [.Name x pos'] e pos) (dSet i tv) := by
  obtain ⟨t1, a1, a2⟩ := he.ex
  exact ⟨_, ps_set hN hi hx a1 hs hf, fun s r o q => a2 r q fun G' H' v sl ex rs z => o.nx _ _ _ _ (s.trans ex.gg) (r.setS ex rs i) z⟩
/-- x, y = a, b -/
def dPar (i j : Nat) (ta tb : TV) : TSD := fun D sd => ta sd fun s => tb sd fun u => D.nx ((sd.set i s).set j u)
theorem psd_par {i j : Nat} {x y : Str} {a b : Expr} {ta tb : TV} {px py pt : Pos} {kt k2 : Nat} {pt2 : Pos} (hc : X.calm = true) (hN : X.N.Nodup) (hi : X.N[i]? = some x) (hj : X.N[j]? = some y) (hij : i ≠ j)
    (hx : X.env.scope.names.lookup x = some .local) (hy : X.env.scope.names.lookup y = some .local) (ha : PV X a ta) (hb : PV X b tb)
    (hw : swappedStores [.Tuple [.Name x px, .Name y py] kt pt] (.Tuple [a, b] k2 pt2) X.env = pure (some [x, y]))
    (hs : swapsWithSole [.Tuple [.Name x px, .Name y py] kt pt] (.Tuple [a, b] k2 pt2) pos.line X.env = pure false := by rfl)
    (h1 : starEach [a, b] X.env = (false, eval a X.env) :: starEach [b] X.env := by rfl) (h2 : starEach [b] X.env = (false, eval b X.env) :: starEach [] X.env := by rfl) :
    PSD X (.Assign [.Tuple [.Name x px, .Name y py] kt pt] (.Tuple [a, b] k2 pt2) pos) (dPar i j ta tb) := by
  obtain ⟨t1, a1, a2⟩ := ha.ex
  obtain ⟨t2, b1, b2⟩ := hb.ex
  refine ⟨_, ps_par hc hN hi hj hij hx hy (pa_cons a1 (pa_cons b1 pa_nil h2) h1) hw hs, fun {Gs G0 H0 G H σ sd Dd D} s r o q => a2 r q fun G1 H1 v s1 e1 r1 z1 => b2 (r.to e1) z1 fun G2 H2 u s2 e2 r2 z2 => ?_⟩
  refine ⟨v, u, rfl, ?_⟩
  have q1 := r.setS e1 r1 i
  exact o.nx _ _ _ _ (s.trans (e1.trans e2).gg) (q1.setS e2 r2 j) z2

/-! ### one's own lists, changed -/
/-- x.append(e) -/
def dApp (i : Nat) (te : TD) : TSD := fun D sd => match sd[i]? with | some (.own (.lst ds)) => te sd fun d => ds.length < sizeLine ∧ D.nx (sd.set i (.own (.lst (ds ++ [d])))) | _ => False
theorem psd_app (i : Nat) {x : Str} {p1 apos cpos : Pos} (he : PD X e te) (hN : X.N[i]? = some x := by rfl) (hv : Vis X.env.scope x := by first | exact Or.inl rfl | exact Or.inr (Or.inl rfl) | exact Or.inr (Or.inr rfl)) (hd : (x == ("__debug__" : Str)) = false := by decide)
    (hcd : (x == ("__classdict__" : Str)) = false := by decide) (hs : swapsWith (.Call (.Attribute (.Name x p1) "append" apos) [e] [] cpos) none pos.line X.env = pure false := by rfl)
    (hbase : attributeBase (.Name x p1) "append" X.env (eval (.Name x p1) X.env) = eval (.Name x p1) X.env := by rfl) (h2 : starEach [e] X.env = (false, eval e X.env) :: starEach [] X.env := by rfl)
    (hfew : ((((backTo cpos (starEach [e] X.env)).all fun x => !x.1) && (backToKw cpos (keywordEach [] X.env)).all fun x => x.1.isSome) && decide (([e].length + ([] : List Keyword).length + if ([] : List Keyword).isEmpty = true then 0 else 1) < 30)) = true := by rfl)
    (hline : (apos.endLine == cpos.line) = true := by rfl) :
    PSD X (.Expr (.Call (.Attribute (.Name x p1) "append" apos) [e] [] cpos) pos) (dApp i te) := by
  obtain ⟨t1, a1, a2⟩ := he.ex
  refine ⟨_, ps_expr (pe_bm PySem.F.plainAttrs_list PySem.F.slot_list_append PySem.F.type_list_append mt_append (pe_var hN hv hd hcd) (pa_cons a1 pa_nil h2) (hbase := hbase) (hfew := hfew) (hline := hline) (hs := h2)) hs, fun {Gs G0 H0 G H σ sd Dd D} s r o q => ?_⟩
  unfold dApp at q
  split at q
  · rename_i ds hds
    obtain ⟨p, h1, ⟨xs, hp, rs⟩, h3, h4⟩ := r.own i _ hds
    refine ⟨.ref p, h1, .inl ⟨rfl, xs, SqL.of hp⟩, a2 r q fun G' H' v d ex rv z => ?_⟩
    obtain ⟨hl, z⟩ := z
    have hp' := ex.hh _ _ hp
    refine ⟨p, xs, v, rfl, rfl, hp', by rw [rs.length]; exact hl, ?_⟩
    have r' := r.to ex
    exact o.nx G' _ _ _ (s.trans ex.gg) (r'.write hds h1 (d' := .lst (ds ++ [d])) (o := .lst (xs ++ [v])) ⟨_, upd_same, (rs.same ex.gg).append (.one rv)⟩) z
  · exact q.elim
end
end LD

namespace LD
open PySem PySem.Spec L2

/-! ### targets -/
def Agree (is : List Nat) (σ σ' : L2.St) : Prop := σ'.length = σ.length ∧ ∀ j, j ∉ is → σ'[j]? = σ[j]?
abbrev TGD := D → List Sl → (List Sl → Prop) → Prop
structure PGD (X : Cx) (tg : Expr) (is : List Nat) (t : TGD) : Prop where
  ex : ∃ g : TG, PG X tg g ∧ ∀ {G0 H0 G H : Hp} {σ : L2.St} {sd : List Sl} {v : V} {d : D} {Q : List Sl → Prop} {R : L2.St → Hp → Prop}, Rel X.K G0 H0 G H σ sd → Rep X.K G v d → t d sd Q →
    (∀ σ' sd', Agree is σ σ' → Rel X.K G0 H0 G H σ' sd' → Q sd' → R σ' H) → g v σ H R
theorem agree_set (σ : L2.St) (i : Nat) (o : Option V) : Agree [i] σ (σ.set i o) := ⟨by simp, fun j hj => by rw [List.getElem?_set_ne]; intro z; subst z; exact hj (by simp)⟩
theorem Agree.refl (is : List Nat) (σ : L2.St) : Agree is σ σ := ⟨rfl, fun _ _ => rfl⟩
theorem Agree.trans {is js : List Nat} {σ σ' σ2 : L2.St} (a : Agree is σ σ') (b : Agree js σ' σ2) : Agree (is ++ js) σ σ2 :=
  ⟨b.1.trans a.1, fun j hj => by
    rw [List.mem_append] at hj
    rw [b.2 j fun z => hj (.inr z), a.2 j fun z => hj (.inl z)]⟩
/-- several targets -/
abbrev TGsD := List D → List Sl → (List Sl → Prop) → Prop
structure PGsD (X : Cx) (tgs : List Expr) (is : List Nat) (t : TGsD) : Prop where
  ex : ∃ g : TGs, PGs X tgs g ∧ ∀ {G0 H0 G H : Hp} {σ : L2.St} {sd : List Sl} {vs : List V} {ds : List D} {Q : List Sl → Prop} {R : L2.St → Hp → Prop}, Rel X.K G0 H0 G H σ sd → RepL X.K G vs ds → t ds sd Q →
    (∀ σ' sd', Agree is σ σ' → Rel X.K G0 H0 G H σ' sd' → Q sd' → R σ' H) → g vs σ H R
def gN (i : Nat) : TGD := fun d sd Q => Q (sd.set i (.dat d))
def gNilD : TGsD := fun ds sd Q => ds = [] ∧ Q sd
def gConsD (t : TGD) (u : TGsD) : TGsD := fun ds sd Q => match ds with | d :: r => t d sd fun sd' => u r sd' Q | [] => False
def gT (n : Nat) (t : TGsD) : TGD := fun d sd Q => match d with | .tup ds => ds.length = n ∧ t ds sd Q | _ => False
section
variable {X : Cx} {pos : Pos}
theorem pgd_name {i : Nat} {x : Str} (hN : X.N.Nodup) (hi : X.N[i]? = some x) (hx : Loc X.env.scope x) (hf : X.fn x = true ∨ X.env.scope.names.lookup x = some .local := by first | exact .inl rfl | exact .inr rfl | assumption) : PGD X (.Name x pos) [i] (gN i) :=
  ⟨gName i, pg_name hN hi hx hf, fun r rv q k => k _ _ (agree_set _ _ _) (r.setDat rv i) q⟩
theorem pgsd_nil : PGsD X [] [] gNilD := ⟨gNil, pgs_nil, fun r rs q k => by
  obtain ⟨rfl, q⟩ := q
  cases rs
  exact ⟨rfl, k _ _ (.refl _ _) r q⟩⟩
theorem pgsd_cons {e : Expr} {es : List Expr} {is js : List Nat} {t : TGD} {u : TGsD} (h1 : PGD X e is t) (h2 : PGsD X es js u)
    (hs : (assignEach (e :: es) X.env).map (·.2) = assign e X.env :: (assignEach es X.env).map (·.2) := by rfl) : PGsD X (e :: es) (is ++ js) (gConsD t u) := by
  obtain ⟨g1, a1, a2⟩ := h1.ex
  obtain ⟨g2, b1, b2⟩ := h2.ex
  refine ⟨gCons g1 g2, pgs_cons a1 b1 hs, fun {G0 H0 G H σ sd vs ds Q R} r rs q k => ?_⟩
  unfold gConsD at q
  split at q
  · rename_i d dr
    cases rs with
    | cons rv rr => exact ⟨_, _, rfl, a2 r rv q fun σ1 sd1 g1 r1 q1 => b2 r1 rr q1 fun σ2 sd2 g2 r2 q2 => k _ _ (g1.trans g2) r2 q2⟩
  · exact q.elim
theorem pgd_tup {es : List Expr} {k : Nat} {is : List Nat} {t : TGsD} {n : Nat} (hc : X.calm = true) (h : PGsD X es is t)
    (hn : (assignEach es X.env).length = n := by rfl) (hst : (assignEach es X.env).findIdx? (·.1) = none := by rfl) : PGD X (.Tuple es k pos) is (gT n t) := by
  obtain ⟨g1, a1, a2⟩ := h.ex
  refine ⟨gTup X.K n g1, pg_tup hc a1 hn hst, fun {G0 H0 G H σ sd v d Q R} r rv q k => ?_⟩
  unfold gT at q
  split at q
  · cases rv with
    | tup h rs => exact ⟨_, _, rfl, Same.tseq r.same h, by rw [rs.length]; exact q.1, a2 r rs q.2 k⟩
  · exact q.elim
/-- target = e of any form -/
def dAsg (te : TD) (g : TGD) : TSD := fun D sd => te sd fun d => g d sd D.nx
theorem psd_asg {tg e : Expr} {te : TD} {is : List Nat} {g : TGD} (he : PD X e te) (hg : PGD X tg is g) (hs : swapsWithSole [tg] e pos.line X.env = pure false := by rfl) (hw : swappedStores [tg] e X.env = pure none := by rfl)
    (h1 : (assignEach [tg] X.env).map (·.2) = [assign tg X.env] := by rfl) : PSD X (.Assign [tg] e pos) (dAsg te g) := by
  obtain ⟨t1, a1, a2⟩ := he.ex
  obtain ⟨g1, b1, b2⟩ := hg.ex
  exact ⟨tAsg t1 g1, ps_asg a1 b1 hs hw h1, fun s r o q => a2 r q fun G' H' v d ex rv z => b2 (r.to ex) rv z fun σ' sd' _ r' q' => o.nx _ _ _ _ (s.trans ex.gg) r' q'⟩
end

/-! ### what is walked -/
structure JOk (K : PySem.W.Frag) (Gs : Hp) (J : It) (ds : List D) : Prop where
  go : ∀ (G H : Hp) (i : Nat), Same Gs G → Same G H → i < ds.length → J.go i H
  stop : ∀ (G H : Hp) (i : Nat), Same Gs G → Same G H → ds.length ≤ i → J.stop i H
  yld : ∀ (G H : Hp) (i : Nat) (x : V) (H' : Hp) (d : D), Same Gs G → Same G H → ds[i]? = some d → J.yld i H x H' → ∃ G', Ext G H G' H' ∧ Rep K G' x d
structure PID (X : Cx) (tg iter : Expr) (t : TDL) : Prop where
  ex : ∃ wi : TI, PI X tg iter wi ∧ ∀ {G0 H0 G H : Hp} {σ : L2.St} {sd : List Sl} {Q : List D → Prop} {R : It → Hp → Prop}, Rel X.K G0 H0 G H σ sd → t sd Q →
    (∀ G' H' J ds, Ext G H G' H' → JOk X.K G' J ds → Q ds → R J H') → wi σ H R
theorem jok_list {K : PySem.W.Frag} {G : Hp} {a : Addr} {xs : List V} {ds : List D} (h : SqL K G a xs) (r : RepL K G xs ds) (inj : ∀ {H : Hp} {ys : List V}, Same G H → SqL K H a ys → ys = xs) : JOk K G (Itl K a) ds where
  go := fun G' H i s1 s2 hi => by
    have hl := r.length
    have hx : i < xs.length := by omega
    exact ⟨xs, xs[i], (s1.trans s2).seq h, List.getElem?_eq_getElem hx⟩
  stop := fun G' H i s1 s2 hi => ⟨xs, (s1.trans s2).seq h, by rw [r.length]; exact hi⟩
  yld := fun G' H i x H' d s1 s2 hd hy => by
    obtain ⟨e, hy⟩ := hy
    subst e
    obtain ⟨v, hv, rv⟩ := r.get hd
    have hx := hy xs ((s1.trans s2).seq h)
    rw [hv] at hx
    cases hx
    exact ⟨G', .refl s2, rv.same s1⟩
theorem jok_tup {K : PySem.W.Frag} {G : Hp} {a : Addr} {xs : List V} {ds : List D} (h : SqT K G a xs) (r : RepL K G xs ds) : JOk K G (Itt K a) ds where
  go := fun G' H i s1 s2 hi => by
    have hl := r.length
    have hx : i < xs.length := by omega
    exact ⟨xs, xs[i], Same.tseq (s1.trans s2) h, List.getElem?_eq_getElem hx⟩
  stop := fun G' H i s1 s2 hi => ⟨xs, Same.tseq (s1.trans s2) h, by rw [r.length]; exact hi⟩
  yld := fun G' H i x H' d s1 s2 hd hy => by
    obtain ⟨e, hy⟩ := hy
    subst e
    obtain ⟨v, hv, rv⟩ := r.get hd
    have hx := hy xs (Same.tseq (s1.trans s2) h)
    rw [hv] at hx
    cases hx
    exact ⟨G', .refl s2, rv.same s1⟩
theorem jok_list' {K : PySem.W.Frag} {G : Hp} {a : Addr} {xs : List V} {ds : List D} (h : SqL K G a xs) (r : RepL K G xs ds) : JOk K G (Itl K a) ds where
  go := fun G' H i s1 s2 hi => by
    have hl := r.length
    have hx : i < xs.length := by omega
    exact ⟨xs, xs[i], (s1.trans s2).seq h, List.getElem?_eq_getElem hx⟩
  stop := fun G' H i s1 s2 hi => ⟨xs, (s1.trans s2).seq h, by rw [r.length]; exact hi⟩
  yld := fun G' H i x H' d s1 s2 hd hy => by
    obtain ⟨e, hy⟩ := hy
    subst e
    obtain ⟨v, hv, rv⟩ := r.get hd
    have hx := hy xs ((s1.trans s2).seq h)
    rw [hv] at hx
    cases hx
    exact ⟨G', .refl s2, rv.same s1⟩
def rgD (lo : Int) (n : Nat) : List D := (List.range n).map fun i => D.int (lo + (i : Nat))
theorem rgD_length (lo : Int) (n : Nat) : (rgD lo n).length = n := by simp [rgD]
theorem rgD_get {lo : Int} {n i : Nat} {d : D} (h : (rgD lo n)[i]? = some d) : i < n ∧ d = .int (lo + (i : Nat)) := by
  have hi : i < n := by
    have := (List.getElem?_eq_some_iff.mp h).1
    simpa [rgD] using this
  refine ⟨hi, ?_⟩
  unfold rgD at h
  rw [List.getElem?_map, List.getElem?_range hi] at h
  simpa using h.symm
theorem jok_rng {K : PySem.W.Frag} {G : Hp} (lo : Int) (n : Nat) : JOk K G (Itr lo n) (rgD lo n) where
  go := fun G' H i s1 s2 hi => by rw [rgD_length] at hi; exact hi
  stop := fun G' H i s1 s2 hi => by rw [rgD_length] at hi; exact hi
  yld := fun G' H i x H' d s1 s2 hd hy => by
    obtain ⟨rfl, rfl⟩ := hy
    obtain ⟨_, rfl⟩ := rgD_get hd
    exact ⟨G', .refl s2, .int _⟩
def asSeq : D → (List D → Prop) → Prop
  | .lst ds, Q => Q ds
  | .tup ds, Q => Q ds
  | .scr ds, Q => Q ds
  | _, _ => False
def iSeq (t : TD) : TDL := fun sd Q => t sd fun d => asSeq d Q
section
variable {X : Cx} {tg e a b : Expr} {te ta tb : TD} {p pos : Pos}
theorem pid_lst (h : PD X e te) : PID X tg e (fun sd Q => te sd fun d => match d with | .lst ds => Q ds | .scr ds => Q ds | _ => False) := by
  obtain ⟨t1, a1, a2⟩ := h.ex
  refine ⟨iList X.K t1, pi_list a1, fun r q k => a2 r q fun G' H' v d ex rv z => ?_⟩
  split at z
  · cases rv with
    | lst h rs => exact ⟨_, rfl, ⟨_, SqL.of (ex.gh _ _ h)⟩, k _ _ _ _ ex (jok_list' (SqL.of h) rs) z⟩
  · cases rv with
    | scr h rs => exact ⟨_, rfl, ⟨_, ex.gh.seq h⟩, k _ _ _ _ ex (jok_list' h rs) z⟩
  · exact z.elim
theorem pid_tup (h : PD X e te) : PID X tg e (fun sd Q => te sd fun d => match d with | .tup ds => Q ds | _ => False) := by
  obtain ⟨t1, a1, a2⟩ := h.ex
  refine ⟨iTup X.K t1, pi_tup a1, fun r q k => a2 r q fun G' H' v d ex rv z => ?_⟩
  split at z
  · cases rv with
    | tup h rs => exact ⟨_, rfl, ⟨_, Same.tseq ex.gh h⟩, k _ _ _ _ ex (jok_tup h rs) z⟩
  · exact z.elim
/-- range(n), range(a, b) -/
def dRng1 (ta : TD) : TDL := fun sd Q => ta sd fun d => asI d fun n => (-(2 ^ 62) ≤ n ∧ n < 2 ^ 62) ∧ Q (rgD 0 n.toNat)
def dRng2 (ta tb : TD) : TDL := fun sd Q => ta sd fun d => tb sd fun e => asI d fun m => asI e fun n => (-(2 ^ 62) ≤ m ∧ m < 2 ^ 62 ∧ -(2 ^ 62) ≤ n ∧ n < 2 ^ 62) ∧ Q (rgD m (n - m).toNat)
theorem pid_rng1 (hg : Gl X "range") (hm : X.mg "range" = none) (ha : PD X a ta) (hs : starEach [a] X.env = [(false, eval a X.env)] := by rfl) :
    PID X tg (.Call (.Name "range" p) [a] [] pos) (dRng1 ta) := by
  obtain ⟨t1, a1, a2⟩ := ha.ex
  refine ⟨_, pi_range1 hg hm (pa_cons a1 pa_nil hs) hs, fun r q k => a2 r q fun G' H' v d ex rv z => ?_⟩
  unfold asI at z
  split at z
  · cases rv
    exact ⟨_, rfl, z.1.1, z.1.2, k _ _ _ _ ex (jok_rng 0 _) z.2⟩
  · exact z.elim
theorem pid_rng2 (hg : Gl X "range") (hm : X.mg "range" = none) (ha : PD X a ta) (hb : PD X b tb) (hs : starEach [a, b] X.env = [(false, eval a X.env), (false, eval b X.env)] := by rfl) (hs2 : starEach [b] X.env = [(false, eval b X.env)] := by rfl) :
    PID X tg (.Call (.Name "range" p) [a, b] [] pos) (dRng2 ta tb) := by
  obtain ⟨t1, a1, a2⟩ := ha.ex
  obtain ⟨t2, b1, b2⟩ := hb.ex
  refine ⟨_, pi_range2 hg hm (pa_cons a1 (pa_cons b1 pa_nil hs2) (by rw [hs, hs2])) hs hs2, fun r q k => a2 r q fun G1 H1 v d e1 r1 z1 => b2 (r.to e1) z1 fun G2 H2 u e e2 r2 z2 => ?_⟩
  unfold asI at z2
  split at z2
  · cases r1
    split at z2
    · cases r2
      exact ⟨_, _, rfl, z2.1, k _ _ _ _ (e1.trans e2) (jok_rng _ _) z2.2⟩
    · exact z2.elim
  · exact z2.elim
end

/-! ### for, while -/
@[irreducible] def forI (ds : List D) (g : TGD) (tb : TSD) (D : DE) (sd : List Sl) : Prop := ∃ I : Nat → List Sl → Prop, I 0 sd ∧
  (∀ i d sd', ds[i]? = some d → I i sd' → g d sd' fun sd2 => tb { D with nx := I (i + 1), ct := I (i + 1), bk := D.nx } sd2) ∧ ∀ sd', I ds.length sd' → D.nx sd'
def dFor (ti : TDL) (g : TGD) (tb : TSD) : TSD := fun D sd => ti sd fun ds => forI ds g tb D sd
@[irreducible] def dWhile (c : TDB) (tb : TSD) : TSD := fun D sd => ∃ I : Nat → List Sl → Prop, (∃ m, I m sd) ∧ ∀ m sd', I m sd' →
  c sd' fun b => ifB b (tb { D with nx := fun s => ∃ m', m' < m ∧ I m' s, ct := fun s => ∃ m', m' < m ∧ I m' s, bk := D.nx } sd') (D.nx sd')
section
variable {X : Cx} {tg iter : Expr} {body : List Stmt} {ti : TDL} {is : List Nat} {g : TGD} {tb : TSD} {pos : Pos} {c : Expr} {tc : TDB}
theorem psd_for (hp : PassesOwn (model X.prog X.w) X.A X.env X.xe) (hc : X.calm = true) (hi : PID X tg iter ti) (hg : PGD X tg is g) (hb : PSsD X body tb)
    (hs : ∀ x, foldedSetIterable iter X.env x = pure x := by intro _; rfl) : PSD X (.For tg iter body [] pos) (dFor ti g tb) := by
  obtain ⟨wi, a1, a2⟩ := hi.ex
  obtain ⟨g1, b1, b2⟩ := hg.ex
  obtain ⟨t1, c1, c2⟩ := hb.ex
  refine ⟨tFor wi g1 t1, ps_for hp hc a1 b1 c1 hs, fun {Gs G0 H0 G H σ sd Dd D} s r o q => a2 r q fun G1 H1 J ds ex jk z => ?_⟩
  unfold forI at z
  obtain ⟨I, h0, hstep, hend⟩ := z
  refine ⟨fun i m σ' H' => ∃ G' sd', Same G1 G' ∧ Rel X.K G0 H0 G' H' σ' sd' ∧ I i sd' ∧ i + m = ds.length, ⟨ds.length, G1, sd, .refl _, r.to ex, h0, by omega⟩, fun i m σ' H' ⟨G', sd', s', r', hI, hm⟩ => ?_⟩
  by_cases hlt : i < ds.length
  · refine .inr ⟨jk.go G' H' i s' r'.same hlt, fun σ2 H2 => ∃ G2 sd2, Same G1 G2 ∧ Rel X.K G0 H0 G2 H2 σ2 sd2 ∧ I (i + 1) sd2, fun σ2 H2 ⟨G2, sd2, s2, r2, h2⟩ => ⟨m - 1, by omega, G2, sd2, s2, r2, h2, by omega⟩, fun x H2 hy => ?_⟩
    have hd : ds[i]? = some ds[i] := List.getElem?_eq_getElem hlt
    obtain ⟨G2, e2, rx⟩ := jk.yld G' H' i x H2 _ s' r'.same hd hy
    refine b2 (r'.to e2) rx (hstep i _ sd' hd hI) fun σ3 sd3 _ r3 q3 => ?_
    exact c2 (Dd := { Dd with nx := I (i + 1), ct := I (i + 1), bk := Dd.nx }) (s'.trans e2.gg) r3 ⟨fun G4 H4 σ4 sd4 s4 r4 q4 => ⟨G4, sd4, s4, r4, q4⟩, fun G4 H4 v d s4 e4 rv q4 => o.rt G4 H4 v d ((s.trans ex.gg).trans s4) e4 rv q4,
      fun G4 H4 σ4 sd4 s4 r4 q4 => o.nx G4 H4 σ4 sd4 ((s.trans ex.gg).trans s4) r4 q4, fun G4 H4 σ4 sd4 s4 r4 q4 => ⟨G4, sd4, s4, r4, q4⟩⟩ q3
  · have hm0 : i = ds.length := by omega
    subst hm0
    exact .inl ⟨jk.stop G' H' _ s' r'.same (Nat.le_refl _), o.nx _ _ _ _ ((s.trans ex.gg).trans s') r' (hend sd' hI)⟩
theorem psd_while (hp : PassesOwn (model X.prog X.w) X.A X.env X.xe) (hc : PTD X c tc) (hb : PSsD X body tb) : PSD X (.While c body [] pos) (dWhile tc tb) := by
  obtain ⟨t0, a1, a2⟩ := hc.ex
  obtain ⟨t1, c1, c2⟩ := hb.ex
  refine ⟨tWhile t0 t1, ps_while hp a1 c1, fun {Gs G0 H0 G H σ sd Dd D} s r o q => ?_⟩
  unfold dWhile at q
  obtain ⟨I, ⟨m0, h0⟩, hstep⟩ := q
  refine ⟨fun m σ' H' => ∃ G' sd', Same Gs G' ∧ Rel X.K G0 H0 G' H' σ' sd' ∧ I m sd', ⟨m0, G, sd, s, r, h0⟩, fun m σ' H' ⟨G', sd', s', r', hI⟩ => a2 r' (hstep m sd' hI) fun G2 H2 b e2 z => ?_⟩
  cases b with
  | true =>
    rw [ifB_t] at z; refine iteT ?_
    refine ⟨fun σ3 H3 => ∃ m', m' < m ∧ ∃ G3 sd3, Same Gs G3 ∧ Rel X.K G0 H0 G3 H3 σ3 sd3 ∧ I m' sd3, fun σ3 H3 ⟨m', hm, G3, sd3, s3, r3, h3⟩ => ⟨m', hm, G3, sd3, s3, r3, h3⟩, ?_⟩
    exact c2 (Dd := { Dd with nx := fun s => ∃ m', m' < m ∧ I m' s, ct := fun s => ∃ m', m' < m ∧ I m' s, bk := Dd.nx }) (s'.trans e2.gg) (r'.to e2) ⟨fun G4 H4 σ4 sd4 s4 r4 ⟨m', hm, q4⟩ => ⟨m', hm, G4, sd4, s4, r4, q4⟩, o.rt,
      fun G4 H4 σ4 sd4 s4 r4 q4 => o.nx G4 H4 σ4 sd4 s4 r4 q4, fun G4 H4 σ4 sd4 s4 r4 ⟨m', hm, q4⟩ => ⟨m', hm, G4, sd4, s4, r4, q4⟩⟩ z
  | false =>
    rw [ifB_f] at z; refine iteF ?_
    exact o.nx _ _ _ _ (s'.trans e2.gg) (r'.to e2) z
end
end LD

namespace LD
open PySem PySem.Spec L2

/-! ### readings as one -/
def TEof (K : PySem.W.Frag) (t : TD) : TE := fun σ H R => ∃ (G0 H0 G : Hp) (sd : List Sl) (Q : D → Prop), Rel K G0 H0 G H σ sd ∧ t sd Q ∧ ∀ G' H' v d, Ext G H G' H' → Rep K G' v d → Q d → R v H'
theorem PD.pe {X : Cx} {e : Expr} {t : TD} (h : PD X e t) : PE X e (TEof X.K t) := by
  obtain ⟨te, h1, h2⟩ := h.ex
  exact ⟨fun pins s σ H Q I ⟨G0, H0, G, sd, QD, r, q, k⟩ => h1.run pins s σ H Q I (h2 r q k)⟩
def TTof (K : PySem.W.Frag) (t : TDB) : TT := fun σ H R => ∃ (G0 H0 G : Hp) (sd : List Sl) (Q : Bool → Prop), Rel K G0 H0 G H σ sd ∧ t sd Q ∧ ∀ G' H' b, Ext G H G' H' → Q b → R b H'
def TGof (K : PySem.W.Frag) (is : List Nat) (t : TGD) : TG := fun v σ H R => ∃ (G0 H0 G : Hp) (sd : List Sl) (d : D) (Q : List Sl → Prop), Rel K G0 H0 G H σ sd ∧ Rep K G v d ∧ t d sd Q ∧ ∀ σ' sd', Agree is σ σ' → Rel K G0 H0 G H σ' sd' → Q sd' → R σ' H
theorem PGD.pg {X : Cx} {e : Expr} {is : List Nat} {t : TGD} (h : PGD X e is t) : PG X e (TGof X.K is t) := by
  obtain ⟨g, h1, h2⟩ := h.ex
  exact ⟨fun pins s σ H v u Q I r ⟨G0, H0, G, sd, d, QD, rl, rv, q, k⟩ => h1.run pins s σ H v u Q I r (h2 rl rv q k)⟩
def TIof (K : PySem.W.Frag) (t : TDL) : TI := fun σ H R => ∃ (G0 H0 G : Hp) (sd : List Sl) (Q : List D → Prop), Rel K G0 H0 G H σ sd ∧ t sd Q ∧ ∀ G' H' J ds, Ext G H G' H' → JOk K G' J ds → Q ds → R J H'
theorem PID.pi {X : Cx} {tg e : Expr} {t : TDL} (h : PID X tg e t) : PI X tg e (TIof X.K t) := by
  obtain ⟨g, h1, h2⟩ := h.ex
  exact ⟨fun pins s σ H R I ⟨G0, H0, G, sd, QD, rl, q, k⟩ => h1.run pins s σ H R I (h2 rl q k)⟩
/-- a clause's tests -/
structure PTsD (X : Cx) (ifs : List Expr) (t : TDB) : Prop where
  pts : PTs X ifs (TTof X.K t)
theorem ptsd_nil {X : Cx} : PTsD X [] (fun _ Q => Q true) := ⟨⟨fun pins s σ H Q I ⟨G0, H0, G, sd, QD, r, q, k⟩ => pts_nil.run pins s σ H Q I (k _ _ _ (.refl r.same) q)⟩⟩
theorem ptsd_one {X : Cx} {c : Expr} {t : TDB} (h : PTD X c t) : PTsD X [c] t := by
  obtain ⟨te, h1, h2⟩ := h.ex
  exact ⟨⟨fun pins s σ H Q I ⟨G0, H0, G, sd, QD, r, q, k⟩ => (pts_one h1).run pins s σ H Q I (h2 r q k)⟩⟩

/-! ### the names of a comprehension's block -/
def wipeD (sd : List Sl) : List Nat → List Sl
  | [] => sd
  | v :: vs => (wipeD sd vs).set v .no
theorem Rel.wipe {K : PySem.W.Frag} {G0 H0 G H : Hp} {σ : L2.St} {sd : List Sl} (r : Rel K G0 H0 G H σ sd) : ∀ vs : List Nat, Rel K G0 H0 G H (L2.wipe σ vs) (wipeD sd vs)
  | [] => r
  | v :: vs => (Rel.wipe r vs).setNo v none
theorem wipe_in {σ : L2.St} {j : Nat} : ∀ {vs : List Nat}, j ∈ vs → (L2.wipe σ vs)[j]? = if j < σ.length then some none else none
  | v :: vs, h => by
    by_cases e : j = v
    · subst e
      show ((L2.wipe σ vs).set j none)[j]? = _
      by_cases hl : j < σ.length
      · rw [if_pos hl, List.getElem?_set_self (by rw [wipe_length]; exact hl)]
      · rw [if_neg hl, List.getElem?_eq_none (by rw [List.length_set, wipe_length]; omega)]
    · have h' : j ∈ vs := by
        rcases List.mem_cons.mp h with z | z
        · exact absurd z e
        · exact z
      show ((L2.wipe σ vs).set v none)[j]? = _
      rw [List.getElem?_set_ne (Ne.symm e)]
      exact wipe_in h'
theorem wipe_agree {σ σ2 : L2.St} {is vs : List Nat} (a : Agree is (L2.wipe σ vs) σ2) (hs : ∀ i ∈ is, i ∈ vs) : L2.wipe σ2 vs = L2.wipe σ vs := by
  apply List.ext_getElem?
  intro j
  have hl : σ2.length = σ.length := by rw [a.1, wipe_length]
  by_cases h : j ∈ vs
  · rw [wipe_in h, wipe_in h, hl]
  · rw [wipe_out h, wipe_out h, a.2 j fun z => h (hs j z), wipe_out h]
theorem Ext.bump {G1 H1 G H : Hp} {p : Addr} {o : HO} (e : Ext G1 H1 G H) (h1 : H1 p = none) (hg : G p = none) : Ext G1 H1 G (upd H p o) :=
  ⟨fun a u z => by rw [upd_ne (ne_of_none z h1)]; exact e.hh _ _ z, e.gg, fun a u z => by rw [upd_ne (ne_of_none z hg)]; exact e.gh _ _ z, e.new⟩
theorem Ext.none {G H G' H' : Hp} (e : Ext G H G' H') {p : Addr} {o : HO} (hp : H p = some o) (hg : G p = none) : G' p = none := by
  cases q : G' p with
  | none => rfl
  | some u =>
    rcases e.new p u q with z | z
    · rw [hg] at z; cases z
    · rw [hp] at z; cases z

/-! ### list comprehensions -/
@[irreducible] def lcI (ds : List D) (g : TGD) (tt : TDB) (te : TD) (sdw : List Sl) (acc0 : List D) (Q : List D → Prop) : Prop := ∃ I : Nat → List D → Prop, I 0 acc0 ∧
  (∀ i d acc, ds[i]? = some d → I i acc → g d sdw fun sd2 => tt sd2 fun b => ifB b (te sd2 fun y => acc.length < sizeLine ∧ I (i + 1) (acc ++ [y])) (I (i + 1) acc)) ∧ ∀ acc, I ds.length acc → Q acc
def dLc (ti : TDL) (g : TGD) (tt : TDB) (te : TD) (vs : List Nat) : TD := fun sd Q => ti sd fun ds => lcI ds g tt te (wipeD sd vs) [] fun acc => Q (.lst acc)
theorem lc_prop {K : PySem.W.Frag} {ti : TDL} {is : List Nat} {g : TGD} {tt : TDB} {te : TD} {vs : List Nat} (hsub : ∀ i ∈ is, i ∈ vs) {G0 H0 G H : Hp} {σ : L2.St} {sd : List Sl} {Q : D → Prop} {R : VK} (rl : Rel K G0 H0 G H σ sd) (q : dLc ti g tt te vs sd Q)
    (k : ∀ G' H' p d, Ext G H G' H' → OwnAt K G' H' p d → H p = none → G' p = none → Q d → R (.ref p) H') : tLc (TIof K ti) (TGof K is g) (TTof K tt) (TEof K te) vs σ H R := by
  refine ⟨G0, H0, G, sd, _, rl, q, fun G1 H1 J ds ex jk z D hD => ?_⟩
  unfold lcI at z
  obtain ⟨I, h0, hstep, hend⟩ := z
  have gD : G1 D = none := ex.gh.free hD
  refine ⟨fun i m H' => ∃ G' accV acc, Ext G1 H1 G' H' ∧ G' D = none ∧ H' D = some (.lst accV) ∧ RepL K G' accV acc ∧ I i acc ∧ i + m = ds.length,
    ⟨ds.length, G1, [], [], (Ext.refl ex.gh).bump hD gD, gD, upd_same, .nil, h0, by omega⟩, fun i m H' ⟨G', accV, acc, e1, g1, a1, ra, hI, hm⟩ => ?_⟩
  by_cases hlt : i < ds.length
  · refine .inr ⟨jk.go G' H' i e1.gg e1.gh hlt, fun H2 => ∃ G2 accV acc, Ext G1 H1 G2 H2 ∧ G2 D = none ∧ H2 D = some (.lst accV) ∧ RepL K G2 accV acc ∧ I (i + 1) acc,
      fun H2 ⟨G2, av, ac, e2, g2, a2, r2, i2⟩ => ⟨m - 1, by omega, G2, av, ac, e2, g2, a2, r2, i2, by omega⟩, fun x H2 hy => ?_⟩
    have hd : ds[i]? = some ds[i] := List.getElem?_eq_getElem hlt
    obtain ⟨G2, e2, rx⟩ := jk.yld G' H' i x H2 _ e1.gg e1.gh hd hy
    refine ⟨G0, H0, G2, wipeD sd vs, ds[i], _, (((rl.to ex).to e1).to e2).wipe vs, rx, hstep i _ acc hd hI, fun σ3 sd3 ag r3 q3 => ⟨wipe_agree ag hsub, ?_⟩⟩
    refine ⟨G0, H0, G2, sd3, _, r3, q3, fun G3 H3 b e3 q4 => ?_⟩
    have a2 := e2.hh _ _ a1
    have g2 := e2.none a1 g1
    have a3 := e3.hh _ _ a2
    have g3 := e3.none a2 g2
    cases b with
    | true =>
      rw [ifB_t] at q4
      refine iteT ?_
      refine ⟨G0, H0, G3, sd3, _, r3.to e3, q4, fun G4 H4 y dy e4 ry ⟨hl, hI'⟩ => ?_⟩
      have a4 := e4.hh _ _ a3
      have g4 := e4.none a3 g3
      exact ⟨accV, a4, by rw [ra.length]; exact hl, G4, accV ++ [y], acc ++ [dy], ((e1.trans e2).trans (e3.trans e4)).bump hD g4, g4, upd_same, (ra.same (e2.gg.trans (e3.gg.trans e4.gg))).append (.one ry), hI'⟩
    | false =>
      rw [ifB_f] at q4
      refine iteF ?_
      exact ⟨G3, accV, acc, (e1.trans e2).trans e3, g3, a3, ra.same (e2.gg.trans e3.gg), q4⟩
  · have hm0 : i = ds.length := by omega
    subst hm0
    exact .inl ⟨jk.stop G' H' _ e1.gg e1.gh (Nat.le_refl _), k G' H' D (.lst acc) (ex.trans e1) ⟨accV, a1, ra⟩ (ex.hh.free hD) g1 (hend acc hI)⟩
section
variable {X : Cx} {elt tg iter : Expr} {ifs : List Expr} {scope : Scope} {own : List (Str × Nat)} {pos : Pos} {ti : TDL} {is : List Nat} {g : TGD} {tt : TDB} {te : TD}
theorem pf_lc (hc : X.calm = true) (hN : X.N.Nodup) (hi : PID X tg iter ti) (ok : BlkOk X.N X.env.scope scope own)
    (hg : ∀ (s : Shared) (H : Hp) (C : Addr) (cl : List (Str × Addr)) (fp : List Addr), PGD (X.blk s H scope (compEnvC scope cl C X.env) fp) tg is g) (hsub : ∀ i ∈ is, i ∈ own.map (·.2))
    (ht : ∀ (s : Shared) (H : Hp) (C : Addr) (cl : List (Str × Addr)) (fp : List Addr), PTsD (X.blk s H scope (compEnvC scope cl C X.env) fp) ifs tt)
    (he : ∀ (s : Shared) (H : Hp) (C : Addr) (cl : List (Str × Addr)) (fp : List Addr), PD (X.blk s H scope (compEnvC scope cl C X.env) fp) elt te) (hs : ∀ x, foldedSetIterable iter X.env x = pure x := by intro _; rfl) :
    PF X (.ListComp elt [⟨tg, iter, ifs, 0⟩] scope pos) (dLc ti g tt te (own.map (·.2))) :=
  ⟨tLc (TIof X.K ti) (TGof X.K is g) (TTof X.K tt) (TEof X.K te) (own.map (·.2)), pe_lc hc hN hi.pi ok (fun s H C cl fp => (hg s H C cl fp).pg) (fun s H C cl fp => (ht s H C cl fp).pts) (fun s H C cl fp => (he s H C cl fp).pe) hs,
    fun rl q k => lc_prop hsub rl q k⟩
/-- y = [..] on one line, y a local -/
theorem psd_setLcO {i : Nat} {y : Str} {py spos : Pos} (hc : X.calm = true) (hN : X.N.Nodup) (hy : X.N[i]? = some y) (hyl : X.env.scope.names.lookup y = some .local)
    (hsw : swapsWith (.ListComp elt [⟨tg, iter, ifs, 0⟩] scope pos) (some (.Name y py)) spos.line X.env = pure true) (hi : PID X tg iter ti) (ok : BlkOk X.N X.env.scope scope own)
    (hg : ∀ (s : Shared) (H : Hp) (C : Addr) (cl : List (Str × Addr)) (fp : List Addr), PGD (X.blk s H scope (compEnvC scope cl C X.env) fp) tg is g) (hsub : ∀ i ∈ is, i ∈ own.map (·.2))
    (ht : ∀ (s : Shared) (H : Hp) (C : Addr) (cl : List (Str × Addr)) (fp : List Addr), PTsD (X.blk s H scope (compEnvC scope cl C X.env) fp) ifs tt)
    (he : ∀ (s : Shared) (H : Hp) (C : Addr) (cl : List (Str × Addr)) (fp : List Addr), PD (X.blk s H scope (compEnvC scope cl C X.env) fp) elt te) (hs : ∀ x, foldedSetIterable iter X.env x = pure x := by intro _; rfl) :
    PSD X (.Assign [.Name y py] (.ListComp elt [⟨tg, iter, ifs, 0⟩] scope pos) spos) (dSet i (vF (dLc ti g tt te (own.map (·.2))))) :=
  ⟨_, ps_setLc (te := TEof X.K te) (tt := TTof X.K tt) (g := TGof X.K is g) hc hN hy hyl hsw hi.pi ok (fun s H C cl fp => (hg s H C cl fp).pg) (fun s H C cl fp => (ht s H C cl fp).pts) (fun s H C cl fp => (he s H C cl fp).pe) hs,
    fun {Gs G0 H0 G H σ sd Dd D} s r o q => lc_prop (ti := ti) (g := g) (tt := tt) (te := te) (Q := fun d => Dd.nx (sd.set i (.own d))) hsub r q fun G' H' p d ex ow hn hg' z => o.nx _ _ _ _ (s.trans ex.gg) (r.setS (s := .own d) ex ⟨p, rfl, ow, hn, hg'⟩ i) z⟩
theorem psd_setLcD {i : Nat} {y : Str} {py spos : Pos} (hc : X.calm = true) (hN : X.N.Nodup) (hy : X.N[i]? = some y) (hyl : X.env.scope.names.lookup y = some .local)
    (hsw : swapsWith (.ListComp elt [⟨tg, iter, ifs, 0⟩] scope pos) (some (.Name y py)) spos.line X.env = pure true) (hi : PID X tg iter ti) (ok : BlkOk X.N X.env.scope scope own)
    (hg : ∀ (s : Shared) (H : Hp) (C : Addr) (cl : List (Str × Addr)) (fp : List Addr), PGD (X.blk s H scope (compEnvC scope cl C X.env) fp) tg is g) (hsub : ∀ i ∈ is, i ∈ own.map (·.2))
    (ht : ∀ (s : Shared) (H : Hp) (C : Addr) (cl : List (Str × Addr)) (fp : List Addr), PTsD (X.blk s H scope (compEnvC scope cl C X.env) fp) ifs tt)
    (he : ∀ (s : Shared) (H : Hp) (C : Addr) (cl : List (Str × Addr)) (fp : List Addr), PD (X.blk s H scope (compEnvC scope cl C X.env) fp) elt te) (hs : ∀ x, foldedSetIterable iter X.env x = pure x := by intro _; rfl) :
    PSD X (.Assign [.Name y py] (.ListComp elt [⟨tg, iter, ifs, 0⟩] scope pos) spos) (dSet i (vD (dLc ti g tt te (own.map (·.2))))) :=
  ⟨_, ps_setLc (te := TEof X.K te) (tt := TTof X.K tt) (g := TGof X.K is g) hc hN hy hyl hsw hi.pi ok (fun s H C cl fp => (hg s H C cl fp).pg) (fun s H C cl fp => (ht s H C cl fp).pts) (fun s H C cl fp => (he s H C cl fp).pe) hs,
    fun {Gs G0 H0 G H σ sd Dd D} s r o q => lc_prop (ti := ti) (g := g) (tt := tt) (te := te) (Q := fun d => Dd.nx (sd.set i (.dat d))) hsub r q fun G' H' p d ex ow hn hg' z => by
      obtain ⟨G2, e2, _, rp⟩ := newGood ex ow hn hg'
      exact o.nx _ _ _ _ (s.trans e2.gg) (r.setS (s := .dat d) e2 rp i) z⟩
end
/-! ### .. of two clauses -/
def dropOwn (sd : List Sl) : List Sl := sd.map fun s => match s with | .own _ => .no | s => s
theorem dropOwn_dat {sd : List Sl} {i : Nat} {d : D} (h : (dropOwn sd)[i]? = some (Sl.dat d)) : sd[i]? = some (Sl.dat d) := by
  unfold dropOwn at h
  rw [List.getElem?_map] at h
  cases q : sd[i]? with
  | none => rw [q] at h; cases h
  | some s =>
    rw [q] at h
    cases s with
    | no => simp at h
    | dat e => simp at h; subst h; rfl
    | own e => simp at h
theorem dropOwn_own {sd : List Sl} {i : Nat} {d : D} : ¬ (dropOwn sd)[i]? = some (Sl.own d) := by
  intro h
  unfold dropOwn at h
  rw [List.getElem?_map] at h
  cases q : sd[i]? with
  | none => rw [q] at h; cases h
  | some s =>
    rw [q] at h
    cases s with
    | no => simp at h
    | dat e => simp at h
    | own e => simp at h
theorem Rel.drop {K : PySem.W.Frag} {G0 H0 G H G' H' : Hp} {σ : L2.St} {sd : List Sl} (r : Rel K G0 H0 G H σ sd) (e0 : Ext G0 H0 G' H') (s : Same G G') : Rel K G0 H0 G' H' σ (dropOwn sd) := by
  refine ⟨e0, by simp [dropOwn, r.len], fun i d h => ?_, fun i d h => (dropOwn_own h).elim, fun i j d e p h _ _ _ => (dropOwn_own h).elim⟩
  obtain ⟨v, h1, h2⟩ := r.dat i d (dropOwn_dat h)
  exact ⟨v, h1, h2.same s⟩
/-- [elt for tg in iter if .. for tg1 in iter1 if ..] -/
@[irreducible] def lc2I (ds : List D) (g : TGD) (tt : TDB) (ti1 : TDL) (g1 : TGD) (tt1 : TDB) (te : TD) (sdw : List Sl) (vs1 : List Nat) (Q : List D → Prop) : Prop := ∃ I : Nat → List D → Prop, I 0 [] ∧
  (∀ i d acc, ds[i]? = some d → I i acc → g d sdw fun sd2 => tt sd2 fun b => ifB b
      (ti1 (dropOwn sd2) fun ds1 => lcI ds1 g1 tt1 te (wipeD (dropOwn sd2) vs1) acc (I (i + 1))) (I (i + 1) acc)) ∧ ∀ acc, I ds.length acc → Q acc
def dLc2 (ti : TDL) (g : TGD) (tt : TDB) (ti1 : TDL) (g1 : TGD) (tt1 : TDB) (te : TD) (vs vs1 : List Nat) : TD := fun sd Q => ti sd fun ds => lc2I ds g tt ti1 g1 tt1 te (wipeD sd vs) vs1 fun acc => Q (.lst acc)
theorem lc2_prop {K : PySem.W.Frag} {ti : TDL} {is is1 : List Nat} {g : TGD} {tt : TDB} {ti1 : TDL} {g1 : TGD} {tt1 : TDB} {te : TD} {vs vs1 : List Nat} (hsub : ∀ i ∈ is, i ∈ vs) (hsub1 : ∀ i ∈ is1, i ∈ vs1) {G0 H0 G H : Hp} {σ : L2.St} {sd : List Sl} {Q : D → Prop} {R : VK} (rl : Rel K G0 H0 G H σ sd) (q : dLc2 ti g tt ti1 g1 tt1 te vs vs1 sd Q)
    (k : ∀ G' H' p d, Ext G H G' H' → OwnAt K G' H' p d → H p = none → G' p = none → Q d → R (.ref p) H') : tLc2 (TIof K ti) (TGof K is g) (TTof K tt) (TIof K ti1) (TGof K is1 g1) (TTof K tt1) (TEof K te) vs vs1 σ H R := by
  refine ⟨G0, H0, G, sd, _, rl, q, fun G1 H1 J ds ex jk z D hD => ?_⟩
  unfold lc2I at z
  obtain ⟨I, h0, hstep, hend⟩ := z
  have gD : G1 D = none := ex.gh.free hD
  refine ⟨fun i m H' => ∃ G' accV acc, Ext G1 H1 G' H' ∧ G' D = none ∧ H' D = some (.lst accV) ∧ RepL K G' accV acc ∧ I i acc ∧ i + m = ds.length,
    ⟨ds.length, G1, [], [], (Ext.refl ex.gh).bump hD gD, gD, upd_same, .nil, h0, by omega⟩, fun i m H' ⟨G', accV, acc, e1, g1', a1, ra, hI, hm⟩ => ?_⟩
  by_cases hlt : i < ds.length
  · refine .inr ⟨jk.go G' H' i e1.gg e1.gh hlt, fun H2 => ∃ G2 accV acc, Ext G1 H1 G2 H2 ∧ G2 D = none ∧ H2 D = some (.lst accV) ∧ RepL K G2 accV acc ∧ I (i + 1) acc,
      fun H2 ⟨G2, av, ac, e2, g2, a2, r2, i2⟩ => ⟨m - 1, by omega, G2, av, ac, e2, g2, a2, r2, i2, by omega⟩, fun x H2 hy => ?_⟩
    have hd : ds[i]? = some ds[i] := List.getElem?_eq_getElem hlt
    obtain ⟨G2, e2, rx⟩ := jk.yld G' H' i x H2 _ e1.gg e1.gh hd hy
    refine ⟨G0, H0, G2, wipeD sd vs, ds[i], _, (((rl.to ex).to e1).to e2).wipe vs, rx, hstep i _ acc hd hI, fun σ3 sd3 ag r3 q3 => ⟨wipe_agree ag hsub, ?_⟩⟩
    refine ⟨G0, H0, G2, sd3, _, r3, q3, fun G3 H3 b e3 q4 => ?_⟩
    have a2 := e2.hh _ _ a1
    have g2 := e2.none a1 g1'
    have a3 := e3.hh _ _ a2
    have g3 := e3.none a2 g2
    cases b with
    | false =>
      rw [ifB_f] at q4
      refine iteF ?_
      exact ⟨G3, accV, acc, (e1.trans e2).trans e3, g3, a3, ra.same (e2.gg.trans e3.gg), q4⟩
    | true =>
      rw [ifB_t] at q4
      refine iteT ?_
      refine ⟨G0, H0, G3, dropOwn sd3, _, (r3.to e3).drop (r3.to e3).ext (.refl _), q4, fun G4 H4 J1 ds1 e4 jk1 z1 => ?_⟩
      unfold lcI at z1
      obtain ⟨I1, h01, hstep1, hend1⟩ := z1
      have a4 := e4.hh _ _ a3
      have g4 := e4.none a3 g3
      have E4 := (e1.trans e2).trans (e3.trans e4)
      have s4 : Same G' G4 := e2.gg.trans (e3.gg.trans e4.gg)
      refine ⟨fun j m1 H5 => ∃ G5 accV acc, Ext G1 H1 G5 H5 ∧ Same G4 G5 ∧ G5 D = none ∧ H5 D = some (.lst accV) ∧ RepL K G5 accV acc ∧ I1 j acc ∧ j + m1 = ds1.length,
        ⟨ds1.length, G4, accV, acc, E4, .refl _, g4, a4, ra.same s4, h01, by omega⟩, fun j m1 H5 ⟨G5, accV5, acc5, e5, f5, g5, a5, ra5, hI5, hm5⟩ => ?_⟩
      by_cases hlt1 : j < ds1.length
      · refine .inr ⟨jk1.go G5 H5 j f5 e5.gh hlt1, fun H6 => ∃ G6 accV acc, Ext G1 H1 G6 H6 ∧ Same G4 G6 ∧ G6 D = none ∧ H6 D = some (.lst accV) ∧ RepL K G6 accV acc ∧ I1 (j + 1) acc,
          fun H6 ⟨G6, av, ac, e6, f6, g6, a6, r6, i6⟩ => ⟨m1 - 1, by omega, G6, av, ac, e6, f6, g6, a6, r6, i6, by omega⟩, fun x H6 hy => ?_⟩
        have hd1 : ds1[j]? = some ds1[j] := List.getElem?_eq_getElem hlt1
        obtain ⟨G6, e6, rx6⟩ := jk1.yld G5 H5 j x H6 _ f5 e5.gh hd1 hy
        have a6 := e6.hh _ _ a5
        have g6 := e6.none a5 g5
        have r5 : Rel K G0 H0 G6 H6 σ3 (dropOwn sd3) := r3.drop (((rl.to ex).ext.trans e5).trans e6) ((e3.gg.trans e4.gg).trans (f5.trans e6.gg))
        refine ⟨G0, H0, G6, wipeD (dropOwn sd3) vs1, ds1[j], _, r5.wipe vs1, rx6, hstep1 j _ acc5 hd1 hI5, fun σ4 sd4 ag4 r6 q6 => ⟨wipe_agree ag4 hsub1, ?_⟩⟩
        refine ⟨G0, H0, G6, sd4, _, r6, q6, fun G7 H7 b e7 q7 => ?_⟩
        have a7 := e7.hh _ _ a6
        have g7 := e7.none a6 g6
        cases b with
        | true =>
          rw [ifB_t] at q7
          refine iteT ?_
          refine ⟨G0, H0, G7, sd4, _, r6.to e7, q7, fun G8 H8 y dy e8 ry ⟨hl, hI'⟩ => ?_⟩
          have a8 := e8.hh _ _ a7
          have g8 := e8.none a7 g7
          exact ⟨accV5, a8, by rw [ra5.length]; exact hl, G8, accV5 ++ [y], acc5 ++ [dy], ((e5.trans e6).trans (e7.trans e8)).bump hD g8, f5.trans (e6.gg.trans (e7.gg.trans e8.gg)), g8, upd_same, (ra5.same (e6.gg.trans (e7.gg.trans e8.gg))).append (.one ry), hI'⟩
        | false =>
          rw [ifB_f] at q7
          refine iteF ?_
          exact ⟨G7, accV5, acc5, (e5.trans e6).trans e7, f5.trans (e6.gg.trans e7.gg), g7, a7, ra5.same (e6.gg.trans e7.gg), q7⟩
      · have hm0 : j = ds1.length := by omega
        subst hm0
        exact .inl ⟨jk1.stop G5 H5 _ f5 e5.gh (Nat.le_refl _), G5, accV5, acc5, e5, g5, a5, ra5, hend1 acc5 hI5⟩
  · have hm0 : i = ds.length := by omega
    subst hm0
    exact .inl ⟨jk.stop G' H' _ e1.gg e1.gh (Nat.le_refl _), k G' H' D (.lst acc) (ex.trans e1) ⟨accV, a1, ra⟩ (ex.hh.free hD) g1' (hend acc hI)⟩
section
variable {X : Cx} {elt tg iter tg1 iter1 : Expr} {ifs ifs1 : List Expr} {scope : Scope} {own : List (Str × Nat)} {vs1 : List Nat} {pos : Pos} {ti ti1 : TDL} {is is1 : List Nat} {g g1 : TGD} {tt tt1 : TDB} {te : TD}
theorem pf_lc2 (hc : X.calm = true) (hN : X.N.Nodup) (hi : PID X tg iter ti) (ok : BlkOk X.N X.env.scope scope own) (hv : ∀ i ∈ vs1, i ∈ own.map (·.2))
    (hg : ∀ (s : Shared) (H : Hp) (C : Addr) (cl : List (Str × Addr)) (fp : List Addr), PGD (X.blk s H scope (compEnvC scope cl C X.env) fp) tg is g) (hsub : ∀ i ∈ is, i ∈ own.map (·.2))
    (ht : ∀ (s : Shared) (H : Hp) (C : Addr) (cl : List (Str × Addr)) (fp : List Addr), PTsD (X.blk s H scope (compEnvC scope cl C X.env) fp) ifs tt)
    (hi1 : ∀ (s : Shared) (H : Hp) (C : Addr) (cl : List (Str × Addr)) (fp : List Addr), PID (X.blk s H scope (compEnvC scope cl C X.env) fp) tg1 iter1 ti1)
    (hg1 : ∀ (s : Shared) (H : Hp) (C : Addr) (cl : List (Str × Addr)) (fp : List Addr), PGD (X.blk s H scope (compEnvC scope cl C X.env) fp) tg1 is1 g1) (hsub1 : ∀ i ∈ is1, i ∈ vs1)
    (ht1 : ∀ (s : Shared) (H : Hp) (C : Addr) (cl : List (Str × Addr)) (fp : List Addr), PTsD (X.blk s H scope (compEnvC scope cl C X.env) fp) ifs1 tt1)
    (he : ∀ (s : Shared) (H : Hp) (C : Addr) (cl : List (Str × Addr)) (fp : List Addr), PD (X.blk s H scope (compEnvC scope cl C X.env) fp) elt te) (hs : ∀ x, foldedSetIterable iter X.env x = pure x := by intro _; rfl) (hs1 : ∀ env x, foldedSetIterable iter1 env x = pure x := by intro _ _; rfl) :
    PF X (.ListComp elt [⟨tg, iter, ifs, 0⟩, ⟨tg1, iter1, ifs1, 0⟩] scope pos) (dLc2 ti g tt ti1 g1 tt1 te (own.map (·.2)) vs1) :=
  ⟨tLc2 (TIof X.K ti) (TGof X.K is g) (TTof X.K tt) (TIof X.K ti1) (TGof X.K is1 g1) (TTof X.K tt1) (TEof X.K te) (own.map (·.2)) vs1,
    pe_lc2 hc hN hi.pi ok hv (fun s H C cl fp => (hg s H C cl fp).pg) (fun s H C cl fp => (ht s H C cl fp).pts) (fun s H C cl fp => (hi1 s H C cl fp).pi) (fun s H C cl fp => (hg1 s H C cl fp).pg) (fun s H C cl fp => (ht1 s H C cl fp).pts) (fun s H C cl fp => (he s H C cl fp).pe) hs hs1,
    fun rl q k => lc2_prop hsub hsub1 rl q k⟩
end

/-! ### defs -/
def initS (n : Nat) (ds : List D) : List Sl := ds.map Sl.dat ++ List.replicate (n - ds.length) .no
theorem rel_start {K : PySem.W.Frag} {G H : Hp} {N : List Str} {vs : List V} {ds : List D} (s : Same G H) (r : RepL K G vs ds) (hl : vs.length ≤ N.length) : Rel K G H G H (L2.start N vs) (initS N.length ds) := by
  have hlen := r.length
  refine ⟨.refl s, by simp [L2.start, initS]; omega, fun i d h => ?_, fun i d h => ?_, fun i j d e p h _ _ _ => ?_⟩
  · unfold initS at h
    by_cases hi : i < ds.length
    · rw [List.getElem?_append_left (by simpa using hi), List.getElem?_map] at h
      cases q : ds[i]? with
      | none => rw [q] at h; cases h
      | some d' =>
        rw [q] at h
        simp only [Option.map_some, Option.some.injEq, Sl.dat.injEq] at h
        subst h
        obtain ⟨v, h1, h2⟩ := r.get q
        refine ⟨v, ?_, h2⟩
        unfold L2.start
        rw [List.getElem?_append_left (by simp; omega), List.getElem?_map, h1]
        rfl
    · rw [List.getElem?_append_right (by simpa using hi)] at h
      have := List.mem_of_getElem? h
      rw [List.mem_replicate] at this
      cases this.2
  · unfold initS at h
    have := List.mem_of_getElem? h
    rcases List.mem_append.mp this with z | z
    · obtain ⟨d', _, z⟩ := List.mem_map.mp z
      cases z
    · rw [List.mem_replicate] at z
      cases z.2
  · unfold initS at h
    have := List.mem_of_getElem? h
    rcases List.mem_append.mp this with z | z
    · obtain ⟨d', _, z⟩ := List.mem_map.mp z
      cases z
    · rw [List.mem_replicate] at z
      cases z.2
/-- the context of a def's body -/
abbrev bodyX (P : Program) (w : World) (K : PySem.W.Frag) (mg : Str → Option Value) (base : Heap) (N : List Str) (qual : Str) (st : Stmt) (f : Addr) (cdv : Value) (A : Around) (outer : List Env) (s : Shared) (H : Hp) (E : XK) : Cx :=
  (cxOf CX0 P w K mg base N qual (defScope st) f cdv A outer s H E).nox
theorem Df.mk' {P : Program} {w : World} {K : PySem.W.Frag} {mg : Str → Option Value} {base : Heap} {x nm qual : Str} {st : Stmt} {f : Addr} {fd : FuncData} {N ps : List Str} {k : Nat} {sp : List D → (D → Prop) → Prop} (F : Fun K nm qual st f fd) (hm : mg x = some (.ref f)) (hb : Binds K fd ps [])
    (S : FnScope N ps (defScope st)) (t : TSD) (hbody : ∀ (cdv : Value) (A : Around) (outer : List Env) (s : Shared) (H : Hp) (E : XK), Room k (A.deeper (PyProof.Rows.envOfC qual (defScope st) s.heap.objs.size f cdv)) → PSsD (bodyX P w K mg base N qual st f cdv A outer s H E) (defBody st) t)
    (len : ∀ ds Q, sp ds Q → ds.length = ps.length) (hread : ∀ ds (Q : D → Prop), sp ds Q → t { nx := fun _ => Q .non, rt := Q } (initS N.length ds)) : Df P w K mg base (k + 1) x sp := by
  have hpn : ps.length ≤ N.length := by rw [← S.pre]; exact List.length_take_le' _ _
  refine ⟨f, fd, ps, F.ok S (fun vs H Q E h => ?_) (fun cdv A outer s H vs Q E hr h => ?_), hm, F.kp, hb⟩
  · obtain ⟨G, ds, QD, _, r, h, _⟩ := h
    rw [r.length]; exact len ds QD h
  · obtain ⟨G, ds, QD, sg, r, h, q⟩ := h
    obtain ⟨ts, a1, a2⟩ := (hbody cdv A outer s H E hr).ex
    refine ⟨ts, a1, ?_⟩
    have hl : vs.length ≤ N.length := by rw [r.length, len ds QD h]; exact hpn
    refine a2 (Gs := G) (Dd := { nx := fun _ => QD .non, rt := QD }) (.refl _) (rel_start sg r hl) ⟨fun G' H' σ sd s' r' z => ?_, fun G' H' v d s' e' rv z => ?_, fun _ _ _ _ _ _ z => z.elim, fun _ _ _ _ _ _ z => z.elim⟩ (hread ds QD h)
    · exact q G' H' _ _ r'.ext .non z
    · exact q G' H' v d e' rv z
end LD

namespace LD
open PySem PySem.Spec L2

/-! ### any of list, tuple that is walked -/
def iAnyV (K : PySem.W.Frag) (tl : TE) : TI := fun σ H R => tl σ H fun x H1 => ∃ a, x = .ref a ∧ (((∃ xs, SqL K H1 a xs) ∧ R (Itl K a) H1) ∨ ((∃ xs, SqT K H1 a xs) ∧ R (Itt K a) H1))
theorem pi_anyV {X : Cx} {tg l : Expr} {tl : TE} (hl : PE X l tl) : PI X tg l (iAnyV X.K tl) := by
  refine ⟨fun pins s σ H R I h => ?_⟩
  refine thn (hl.run pins s σ H _ I h) fun v s1 ⟨x, H1, I1, r1, q1⟩ => ?_
  obtain ⟨a, e, q⟩ := q1
  subst e
  cases r1
  rcases q with ⟨⟨xs, hq⟩, q⟩ | ⟨⟨xs, hq⟩, q⟩
  · obtain ⟨its, rv, p, hz⟩ := I1.list hq
    refine wpAny_pyIter_list p.isList ?_
    refine ⟨s1.heap.objs.size, [s1.heap.objs.size], _, _, H1, rfl, I1.kept (t' := s1.toks) fun b o e => Heap.get?_push_of_some _ e, turn_list a _, ⟨_, Heap.get?_push_size _ rfl, rfl, rfl⟩, fun b hb => ?_, q⟩
    have e : b = s1.heap.objs.size := by simpa using hb
    subst e
    exact I1.fpOk (Nat.le_refl _) (I1.hok.fresh (Nat.le_refl _))
  · obtain ⟨its, rv, p, hz⟩ := I1.tuple hq
    refine wpAny_pyIter_tuple (show s1.heap.IsTuple a its.toArray from p) ?_
    refine ⟨s1.heap.objs.size, [s1.heap.objs.size], _, _, H1, rfl, I1.kept (t' := s1.toks) fun b o e => Heap.get?_push_of_some _ e, turn_tuple a _, ⟨_, Heap.get?_push_size _ rfl, rfl, rfl⟩, fun b hb => ?_, q⟩
    have e : b = s1.heap.objs.size := by simpa using hb
    subst e
    exact I1.fpOk (Nat.le_refl _) (I1.hok.fresh (Nat.le_refl _))
section
variable {X : Cx} {tg e a b : Expr} {te ta tb : TD} {p pos : Pos} {es : List Expr} {tl : TDL}
theorem pid_seq (h : PD X e te) : PID X tg e (iSeq te) := by
  obtain ⟨t1, a1, a2⟩ := h.ex
  refine ⟨iAnyV X.K t1, pi_anyV a1, fun r q k => a2 r q fun G' H' v d ex rv z => ?_⟩
  unfold asSeq at z
  split at z
  · cases rv with
    | lst h rs => exact ⟨_, rfl, .inl ⟨⟨_, SqL.of (ex.gh _ _ h)⟩, k _ _ _ _ ex (jok_list' (SqL.of h) rs) z⟩⟩
  · cases rv with
    | tup h rs => exact ⟨_, rfl, .inr ⟨⟨_, Same.tseq ex.gh h⟩, k _ _ _ _ ex (jok_tup h rs) z⟩⟩
  · cases rv with
    | scr h rs => exact ⟨_, rfl, .inl ⟨⟨_, ex.gh.seq h⟩, k _ _ _ _ ex (jok_list' h rs) z⟩⟩
  · exact z.elim

/-! ### the module's constants -/
structure Cst (K : PySem.W.Frag) (mg : Str → Option Value) (x : Str) (d : D) : Prop where
  ex : ∃ (u : Value) (v : V), mg x = some u ∧ RelV v u ∧ ∀ G, Rep K G v d
theorem pd_cst {x : Str} {d : D} (c : Cst X.K X.mg x d) (hg : Gl X x) (hd : (x == ("__debug__" : Str)) = false := by decide) : PD X (.Name x pos) (dC d) := by
  obtain ⟨u, v, a, b, c⟩ := c.ex
  exact pd_glob hg a b c hd

/-! ### isinstance(x, T), T a built-in type -/
def tyD : D → Option String
  | .non => some "NoneType"
  | .bl _ => some "bool"
  | .int _ => some "int"
  | .str _ => some "str"
  | .lst _ => some "list"
  | .scr _ => some "list"
  | .tup _ => some "tuple"
  | .dct _ => some "dict"
  | .dctT _ => some "dict"
  | _ => none
def isTy (n T : String) : Bool := n == T || (n == "bool" && T == "int")
theorem tyD_x {K : PySem.W.Frag} {H : Hp} {v : V} {d : D} {n : String} (r : Rep K H v d) (h : tyD d = some n) : TyX K H v (.type n) := by
  cases r with
  | non => cases h; exact .base .non
  | bl b => cases h; exact .base (.bl b)
  | int b => cases h; exact .base (.int b)
  | str b => cases h; exact .base (.str b)
  | lst e _ => cases h; exact .base (.lst e)
  | scr e _ =>
    cases h
    rcases e with (e | ⟨o, e⟩) | ⟨o, its, m, e, c, _⟩
    · exact .base (.lst e)
    · exact .base (.frz e)
    · exact .kList e c
  | tup e _ =>
    cases h
    rcases e with (e | ⟨o, e⟩) | ⟨o, its, m, e, c, _⟩
    · exact .base (.tup e)
    · exact .fTuple e
    · exact .kTuple e c
  | dct e _ => cases h; exact .base (.dK e)
  | dctT e _ => cases h; exact .base (.dT e)
  | drw e _ _ => cases h
theorem kit_all : ∀ n ∈ ["NoneType", "bool", "int", "str", "list", "tuple", "dict"], ∀ T ∈ ["int", "bool", "str", "list", "tuple", "dict"], kitB n T = some (isTy n T) := by decide +kernel
theorem tyD_mem {d : D} {n : String} (h : tyD d = some n) : n ∈ ["NoneType", "bool", "int", "str", "list", "tuple", "dict"] := by
  cases d <;> simp [tyD] at h <;> subst h <;> decide
def vIsi (T : String) (d : D) (Q : Bool → Prop) : Prop := match tyD d with | some n => Q (isTy n T) | none => False
theorem pe_isi {x2 : Str} {T : String} {p2 : Pos} {t1 : TE} (hg : Gl X "isinstance") (hm : X.mg "isinstance" = none) (hg2 : Gl X x2) (hm2 : X.mg x2 = none) (hv2 : bootBuiltins x2 = some (.type T)) (ha : PE X a t1)
    (hs1 : starEach [a, .Name x2 p2] X.env = (false, eval a X.env) :: starEach [.Name x2 p2] X.env) (hs2 : starEach [.Name x2 p2] X.env = (false, eval (.Name x2 p2) X.env) :: starEach [] X.env)
    (hpl : (backTo pos (starEach [.Name x2 p2] X.env)).any (·.1) = false) (hn : x2 ≠ "__name__") (hdb : (x2 == ("__debug__" : Str)) = false) :
    PE X (.Call (.Name "isinstance" p) [a, .Name x2 p2] [] pos) (tCB (rIsi X.K) (tCons t1 (tCons (tC (.ty T)) tNil))) :=
  pe_callB call_isi hg hm PyProof.Rows.boot_isinstance (pa_cons ha (pa_cons (pe_bltn hg2 hm2 hv2 (show RelV (.ty T) (.type T) from rfl) hn hdb) pa_nil hs2) hs1) (by decide) (by decide) hs1 hpl
def dIsi (T : String) (ta : TD) : TDB := fun sd Q => ta sd fun d => vIsi T d Q
theorem pd_isi {x2 : Str} {T : String} {p2 : Pos} (hT : T ∈ ["int", "bool", "str", "list", "tuple", "dict"]) (hg : Gl X "isinstance") (hm : X.mg "isinstance" = none) (hg2 : Gl X x2) (hm2 : X.mg x2 = none) (hv2 : bootBuiltins x2 = some (.type T)) (ha : PB X a ta)
    (hs1 : starEach [a, .Name x2 p2] X.env = (false, eval a X.env) :: starEach [.Name x2 p2] X.env := by rfl) (hs2 : starEach [.Name x2 p2] X.env = (false, eval (.Name x2 p2) X.env) :: starEach [] X.env := by rfl)
    (hpl : (backTo pos (starEach [.Name x2 p2] X.env)).any (·.1) = false := by rfl) (hn : x2 ≠ "__name__" := by decide) (hdb : (x2 == ("__debug__" : Str)) = false := by decide) :
    PD X (.Call (.Name "isinstance" p) [a, .Name x2 p2] [] pos) (dBV (dIsi T ta)) := by
  obtain ⟨t1, a1, a2⟩ := ha.ex
  refine ⟨_, pe_isi hg hm hg2 hm2 hv2 a1 hs1 hs2 hpl hn hdb, fun r q k => a2 r q fun G' H' v d ex rv z => ?_⟩
  unfold vIsi at z
  split at z
  · rename_i n hn
    exact ⟨v, .ty T, .type n, .type T, _, rfl, .ty T, tyD_x (rv.rep ex.gh) hn, kit_ty (kit_all n (tyD_mem hn) T hT), k _ _ _ _ ex (.bl _) z⟩
  · exact z.elim
theorem ptd_isi {x2 : Str} {T : String} {p2 : Pos} (hT : T ∈ ["int", "bool", "str", "list", "tuple", "dict"]) (hg : Gl X "isinstance") (hm : X.mg "isinstance" = none) (hg2 : Gl X x2) (hm2 : X.mg x2 = none) (hv2 : bootBuiltins x2 = some (.type T)) (ha : PB X a ta)
    (hs1 : starEach [a, .Name x2 p2] X.env = (false, eval a X.env) :: starEach [.Name x2 p2] X.env := by rfl) (hs2 : starEach [.Name x2 p2] X.env = (false, eval (.Name x2 p2) X.env) :: starEach [] X.env := by rfl)
    (hpl : (backTo pos (starEach [.Name x2 p2] X.env)).any (·.1) = false := by rfl) (hn : x2 ≠ "__name__" := by decide) (hdb : (x2 == ("__debug__" : Str)) = false := by decide) :
    PTD X (.Call (.Name "isinstance" p) [a, .Name x2 p2] [] pos) (dIsi T ta) := by
  obtain ⟨t1, a1, a2⟩ := ha.ex
  refine ⟨_, pt_val (pe_isi hg hm hg2 hm2 hv2 a1 hs1 hs2 hpl hn hdb), fun r q k => a2 r q fun G' H' v d ex rv z => ?_⟩
  unfold vIsi at z
  split at z
  · rename_i n hn
    exact ⟨v, .ty T, .type n, .type T, _, rfl, .ty T, tyD_x (rv.rep ex.gh) hn, kit_ty (kit_all n (tyD_mem hn) T hT), _, rfl, k _ _ _ ex z⟩
  · exact z.elim

/-! ### (*a, b, ..), [*a, b, ..] -/
def dStar (te : TD) (tl : TDL) : TDL := fun sd Q => te sd fun d => asSeq d fun ds => tl sd fun es => Q (ds ++ es)
theorem pad_star {ps : Pos} (ha : PD X e te) (hr : PAD X es tl) (hs : starEach (.Starred e ps :: es) X.env = (true, eval e X.env) :: starEach es X.env := by rfl) : PAD X (.Starred e ps :: es) (dStar te tl) := by
  obtain ⟨t1, h1, h2⟩ := ha.ex
  obtain ⟨t2, h3, h4⟩ := hr.ex
  refine ⟨StX.tStar X.K t1 t2, StX.pa_star h1 h3 hs, fun rl q k => h2 rl q fun G1 H1 v d e1 r1 q1 => ?_⟩
  unfold asSeq at q1
  split at q1
  · cases r1 with
    | lst h rs => exact ⟨_, _, rfl, .inr (SqL.of (e1.gh _ _ h)), h4 (rl.to e1) q1 fun G2 H2 vs ds e2 r2 q2 => k G2 H2 _ _ (e1.trans e2) ((rs.same e2.gg).append r2) q2⟩
  · cases r1 with
    | tup h rs => exact ⟨_, _, rfl, .inl (Same.tseq e1.gh h), h4 (rl.to e1) q1 fun G2 H2 vs ds e2 r2 q2 => k G2 H2 _ _ (e1.trans e2) ((rs.same e2.gg).append r2) q2⟩
  · cases r1 with
    | scr h rs => exact ⟨_, _, rfl, .inr (e1.gh.seq h), h4 (rl.to e1) q1 fun G2 H2 vs ds e2 r2 q2 => k G2 H2 _ _ (e1.trans e2) ((rs.same e2.gg).append r2) q2⟩
  · exact q1.elim
/-- a + b of lists, a new one -/
def vAddL : D → D → (D → Prop) → Prop
  | .lst a, .lst b, Q => a.length + b.length ≤ sizeLine ∧ Q (.lst (a ++ b))
  | _, _, _ => False
theorem pf_addL (ha : PB X a ta) (hb : PB X b tb) : PF X (.BinOp a .Add b pos) (d2 vAddL ta tb) := by
  obtain ⟨te1, h1, h2⟩ := ha.ex
  obtain ⟨te2, h3, h4⟩ := hb.ex
  refine ⟨tOp rCat te1 te2, pe_op op_cat h1 h3, fun rl q k => bin2 h2 h4 rl q fun G' H' x y d e ex rx ry z => ?_⟩
  unfold vAddL at z
  split at z
  · rename_i l1 l2
    obtain ⟨p, xs, rfl, e1, r1⟩ := rx.lst ex.gh
    obtain ⟨p2, ys, rfl, e2, r2⟩ := ry.lst ex.gh
    refine ⟨p, p2, xs, ys, rfl, rfl, e1, e2, by rw [r1.length, r2.length]; exact z.1, fun p' hp => ?_⟩
    exact k _ _ _ (.lst (l1 ++ l2)) (ex.trans (Ext.loose ex.gh hp)) ⟨_, upd_same, r1.append r2⟩ (ex.hh.free hp) (ex.gh.free hp) z.2
  · exact z.elim
def vMulL : D → D → (D → Prop) → Prop
  | .lst l, .int k, Q => -(2 ^ 63) ≤ k ∧ k < 2 ^ 63 ∧ l.length * k.toNat ≤ sizeLine ∧ Q (.lst (List.replicate k.toNat l).flatten)
  | _, _, _ => False
theorem pf_mulL (ha : PB X a ta) (hb : PB X b tb) : PF X (.BinOp a .Mult b pos) (d2 vMulL ta tb) := by
  obtain ⟨te1, h1, h2⟩ := ha.ex
  obtain ⟨te2, h3, h4⟩ := hb.ex
  refine ⟨tOp rRep te1 te2, pe_op op_rep h1 h3, fun rl q k => bin2 h2 h4 rl q fun G' H' x y d e ex rx ry z => ?_⟩
  unfold vMulL at z
  split at z
  · rename_i l kk
    obtain ⟨p, xs, rfl, e1, r1⟩ := rx.lst ex.gh
    refine ⟨p, kk, xs, rfl, ry.int, e1, z.1, z.2.1, by rw [r1.length]; exact z.2.2.1, fun p' hp => ?_⟩
    exact k _ _ _ (.lst (List.replicate kk.toNat l).flatten) (ex.trans (Ext.loose ex.gh hp)) ⟨_, upd_same, r1.rep _⟩ (ex.hh.free hp) (ex.gh.free hp) z.2.2.2
  · exact z.elim
end

/-! ### one's own lists, changed -/
section
variable {X : Cx} {pos : Pos} {e : Expr} {te : TD}
/-- x.extend(e), e a list -/
def dExt (i : Nat) (te : TD) : TSD := fun D sd => match sd[i]? with | some (.own (.lst ds)) => te sd fun d => (match d with | .lst es => ds.length + es.length ≤ sizeLine ∧ D.nx (sd.set i (.own (.lst (ds ++ es)))) | _ => False) | _ => False
theorem psd_ext (i : Nat) {x : Str} {p1 apos cpos : Pos} (he : PD X e te) (hN : X.N[i]? = some x := by rfl) (hv : Vis X.env.scope x := by first | exact Or.inl rfl | exact Or.inr (Or.inl rfl) | exact Or.inr (Or.inr rfl)) (hd : (x == ("__debug__" : Str)) = false := by decide)
    (hcd : (x == ("__classdict__" : Str)) = false := by decide) (hs : swapsWith (.Call (.Attribute (.Name x p1) "extend" apos) [e] [] cpos) none pos.line X.env = pure false := by rfl)
    (hbase : attributeBase (.Name x p1) "extend" X.env (eval (.Name x p1) X.env) = eval (.Name x p1) X.env := by rfl) (h2 : starEach [e] X.env = (false, eval e X.env) :: starEach [] X.env := by rfl)
    (hfew : ((((backTo cpos (starEach [e] X.env)).all fun x => !x.1) && (backToKw cpos (keywordEach [] X.env)).all fun x => x.1.isSome) && decide (([e].length + ([] : List Keyword).length + if ([] : List Keyword).isEmpty = true then 0 else 1) < 30)) = true := by rfl)
    (hline : (apos.endLine == cpos.line) = true := by rfl) :
    PSD X (.Expr (.Call (.Attribute (.Name x p1) "extend" apos) [e] [] cpos) pos) (dExt i te) := by
  obtain ⟨t1, a1, a2⟩ := he.ex
  refine ⟨_, ps_expr (pe_bm PySem.F.plainAttrs_list PySem.F.slot_list_extend PySem.F.type_list_extend mt_extend (pe_var hN hv hd hcd) (pa_cons a1 pa_nil h2) (hbase := hbase) (hfew := hfew) (hline := hline) (hs := h2)) hs, fun {Gs G0 H0 G H σ sd Dd D} s r o q => ?_⟩
  unfold dExt at q
  split at q
  · rename_i ds hds
    obtain ⟨p, h1, ⟨xs, hp, rs⟩, h3, h4⟩ := r.own i _ hds
    refine ⟨.ref p, h1, .inl ⟨rfl, xs, SqL.of hp⟩, a2 r q fun G' H' v d ex rv z => ?_⟩
    split at z
    · rename_i es
      obtain ⟨hl, z⟩ := z
      cases rv with
      | lst hb rb =>
        have hp' := ex.hh _ _ hp
        refine ⟨p, _, xs, _, rfl, rfl, hp', ex.gh _ _ hb, by rw [rs.length, rb.length]; exact hl, ?_⟩
        have r' := r.to ex
        exact o.nx G' _ _ _ (s.trans ex.gg) (r'.write hds h1 (d' := .lst (ds ++ es)) ⟨_, upd_same, (rs.same ex.gg).append rb⟩) z
    · exact z.elim
  · exact q.elim
/-- y = x.pop() -/
def dPop (j i : Nat) : TSD := fun D sd => match sd[i]? with | some (.own (.lst ds)) => optQ ds[ds.length - 1]? fun d => D.nx ((sd.set i (.own (.lst ds.dropLast))).set j (.dat d)) | _ => False
theorem psd_pop (j i : Nat) {y x : Str} {p1 p2 apos cpos : Pos} (hNd : X.N.Nodup) (hj : X.N[j]? = some y) (hy : Loc X.env.scope y) (hN : X.N[i]? = some x := by rfl) (hv : Vis X.env.scope x := by first | exact Or.inl rfl | exact Or.inr (Or.inl rfl) | exact Or.inr (Or.inr rfl)) (hd : (x == ("__debug__" : Str)) = false := by decide)
    (hcd : (x == ("__classdict__" : Str)) = false := by decide) (hs : swapsWith (.Call (.Attribute (.Name x p1) "pop" apos) [] [] cpos) (some (.Name y p2)) pos.line X.env = pure false := by rfl)
    (hbase : attributeBase (.Name x p1) "pop" X.env (eval (.Name x p1) X.env) = eval (.Name x p1) X.env := by rfl)
    (hline : (apos.endLine == cpos.line) = true := by rfl) (hf : X.fn y = true ∨ X.env.scope.names.lookup y = some .local := by first | exact .inl rfl | exact .inr rfl | assumption) :
    PSD X (.Assign [.Name y p2] (.Call (.Attribute (.Name x p1) "pop" apos) [] [] cpos) pos) (dPop j i) := by
  refine ⟨_, ps_set hNd hj hy (pe_bm0 PySem.F.plainAttrs_list PySem.F.slot_list_pop PySem.F.type_list_pop mt_pop (pe_var hN hv hd hcd) (hbase := hbase) (hline := hline)) hs hf, fun {Gs G0 H0 G H σ sd Dd D} s r o q => ?_⟩
  unfold dPop at q
  split at q
  · rename_i ds hds
    obtain ⟨d, hdd, q⟩ := optQ_ex q
    · obtain ⟨p, h1, ⟨xs, hp, rs⟩, h3, h4⟩ := r.own i _ hds
      obtain ⟨v, hv', rv⟩ := rs.get hdd
      refine ⟨.ref p, h1, .inl ⟨rfl, xs, SqL.of hp⟩, p, xs, v, rfl, rfl, hp, by rw [rs.length]; exact hv', ?_⟩
      have r' := r.write hds h1 (d' := .lst ds.dropLast) (o := .lst xs.dropLast) ⟨_, upd_same, rs.dropLast⟩
      exact o.nx G _ _ _ s (r'.setDat rv j) q
  · exact q.elim
/-- x[b] = e -/
def dSetI (i : Nat) (tb te : TD) : TSD := fun D sd => match sd[i]? with | some (.own (.lst ds)) => te sd fun d => tb sd fun b => asI b fun k => optQ (ixN ds.length k) fun j => D.nx (sd.set i (.own (.lst (ds.set j d)))) | _ => False
theorem psd_seti (i : Nat) {x : Str} {p1 p2 : Pos} {b : Expr} {tb : TD} (hb : PD X b tb) (he : PD X e te) (hN : X.N[i]? = some x := by rfl) (hv : Vis X.env.scope x := by first | exact Or.inl rfl | exact Or.inr (Or.inl rfl) | exact Or.inr (Or.inr rfl)) (hd : (x == ("__debug__" : Str)) = false := by decide)
    (hcd : (x == ("__classdict__" : Str)) = false := by decide)
    (ha : ∀ v, assign (.Subscript (.Name x p1) b p2) X.env v = (do
      let ov ← holding [v] (eval (.Name x p1) X.env)
      let iv ← holding [v, ov] (eval b X.env)
      standAt p2
      holding [v, ov, iv] (setItem ov iv v)
      release [v, ov, iv] []) := by intro _; rfl)
    (hs : swapsWithSole [.Subscript (.Name x p1) b p2] e pos.line X.env = pure false := by rfl) (hw : swappedStores [.Subscript (.Name x p1) b p2] e X.env = pure none := by rfl)
    (h1 : (assignEach [.Subscript (.Name x p1) b p2] X.env).map (·.2) = [assign (.Subscript (.Name x p1) b p2) X.env] := by rfl) :
    PSD X (.Assign [.Subscript (.Name x p1) b p2] e pos) (dSetI i tb te) := by
  obtain ⟨t1, a1, a2⟩ := he.ex
  obtain ⟨t2, b1, b2⟩ := hb.ex
  refine ⟨_, ps_asg a1 (pg_sub (pe_var hN hv hd hcd) b1 set_list ha) hs hw h1, fun {Gs G0 H0 G H σ sd Dd D} s r o q => ?_⟩
  unfold dSetI at q
  split at q
  · rename_i ds hds
    refine a2 r q fun G1 H1 v d e1 rv z => ?_
    obtain ⟨p, h1, ⟨xs, hp, rs⟩, h3, h4⟩ := r.own i _ hds
    refine ⟨.ref p, h1, b2 (r.to e1) z fun G2 H2 u b e2 rb z2 => ?_⟩
    unfold asI at z2
    split at z2
    · cases rb
      obtain ⟨j, hj, z2⟩ := optQ_ex z2
      · have ex := e1.trans e2
        refine ⟨p, xs, _, j, rfl, rfl, ex.hh _ _ hp, by rw [rs.length]; exact hj, ?_⟩
        have r' := r.to ex
        exact o.nx G2 _ _ _ (s.trans ex.gg) (r'.write hds h1 (d' := .lst (ds.set j d)) ⟨_, upd_same, RepL.set (rv.same e2.gg) j (rs.same ex.gg)⟩) z2
    · exact z2.elim
  · exact q.elim
/-- y = x, one's own list handed on -/
def dMove (j i : Nat) : TSD := fun D sd => match sd[i]? with | some (.own d) => D.nx ((sd.set i .no).set j (.own d)) | _ => False
theorem Rel.move {K : PySem.W.Frag} {G0 H0 G H : Hp} {σ : L2.St} {sd : List Sl} (r : Rel K G0 H0 G H σ sd) {i j : Nat} {d : D} {p : Addr} (hij : i ≠ j) (hi : sd[i]? = some (.own d)) (hp : σ[i]? = some (some (.ref p))) :
    Rel K G0 H0 G H (σ.set j (some (.ref p))) ((sd.set i .no).set j (.own d)) := by
  have hli : i < sd.length := (List.getElem?_eq_some_iff.mp hi).1
  have cs : ∀ (k : Nat) (s : Sl), ((sd.set i .no).set j (.own d))[k]? = some s → s ≠ .no → (k = j ∧ s = .own d ∧ j < sd.length) ∨ (k ≠ j ∧ k ≠ i ∧ sd[k]? = some s) := fun k s hk hs => by
    by_cases q : k = j
    · subst q
      have hl : k < sd.length := by
        have := (List.getElem?_eq_some_iff.mp hk).1
        simpa using this
      rw [List.getElem?_set_self (by simpa using hl)] at hk
      cases hk
      exact .inl ⟨rfl, rfl, hl⟩
    · rw [List.getElem?_set_ne (Ne.symm q)] at hk
      by_cases q2 : k = i
      · subst q2
        rw [List.getElem?_set_self hli] at hk
        cases hk
        exact absurd rfl hs
      · rw [List.getElem?_set_ne (Ne.symm q2)] at hk
        exact .inr ⟨q, q2, hk⟩
  refine ⟨r.ext, by simp [r.len], fun k e hk => ?_, fun k e hk => ?_, fun k l d1 d2 p' hk hl e1 e2 => ?_⟩
  · rcases cs k _ hk (by intro z; cases z) with ⟨_, z, _⟩ | ⟨q, _, z⟩
    · cases z
    · rw [List.getElem?_set_ne (Ne.symm q)]; exact r.dat k e z
  · rcases cs k _ hk (by intro z; cases z) with ⟨rfl, z, hl⟩ | ⟨q, _, z⟩
    · cases z
      obtain ⟨p', h1, h2⟩ := r.own i d hi
      rw [hp] at h1
      cases h1
      exact ⟨p, by rw [List.getElem?_set_self (by rw [← r.len]; exact hl)], h2⟩
    · rw [List.getElem?_set_ne (Ne.symm q)]; exact r.own k e z
  · rcases cs k _ hk (by intro z; cases z) with ⟨rfl, z, hlk⟩ | ⟨q, qi, z⟩
    · rcases cs l _ hl (by intro z; cases z) with ⟨rfl, z2, _⟩ | ⟨q2, q2i, z2⟩
      · rfl
      · exfalso
        rw [List.getElem?_set_self (by rw [← r.len]; exact hlk)] at e1
        cases e1
        rw [List.getElem?_set_ne (Ne.symm q2)] at e2
        exact q2i (r.sep l i d2 d p z2 hi e2 hp)
    · rcases cs l _ hl (by intro z; cases z) with ⟨rfl, z2, hll⟩ | ⟨q2, q2i, z2⟩
      · exfalso
        rw [List.getElem?_set_self (by rw [← r.len]; exact hll)] at e2
        cases e2
        rw [List.getElem?_set_ne (Ne.symm q)] at e1
        exact qi (r.sep k i d1 d p z hi e1 hp)
      · rw [List.getElem?_set_ne (Ne.symm q)] at e1
        rw [List.getElem?_set_ne (Ne.symm q2)] at e2
        exact r.sep k l d1 d2 p' z z2 e1 e2
theorem psd_move (j i : Nat) {y x : Str} {p1 p2 : Pos} (hij : i ≠ j) (hNd : X.N.Nodup) (hj : X.N[j]? = some y) (hy : Loc X.env.scope y) (hN : X.N[i]? = some x := by rfl) (hv : Vis X.env.scope x := by first | exact Or.inl rfl | exact Or.inr (Or.inl rfl) | exact Or.inr (Or.inr rfl)) (hd : (x == ("__debug__" : Str)) = false := by decide)
    (hcd : (x == ("__classdict__" : Str)) = false := by decide) (hs : swapsWith (.Name x p1) (some (.Name y p2)) pos.line X.env = pure false := by rfl)
    (hf : X.fn y = true ∨ X.env.scope.names.lookup y = some .local := by first | exact .inl rfl | exact .inr rfl | assumption) :
    PSD X (.Assign [.Name y p2] (.Name x p1) pos) (dMove j i) := by
  refine ⟨_, ps_set hNd hj hy (pe_var hN hv hd hcd) hs hf, fun {Gs G0 H0 G H σ sd Dd D} s r o q => ?_⟩
  unfold dMove at q
  split at q
  · rename_i d hds
    obtain ⟨p, h1, _⟩ := r.own i _ hds
    exact ⟨.ref p, h1, o.nx G _ _ _ s (r.move hij hds h1) q⟩
  · exact q.elim
end
end LD

namespace LD
open PySem PySem.Spec L2
theorem hu65 {k : Nat} {A : Around} (hr : Room k A) : A.units + 65 < cLine := by have := hr.un; omega
/-- a def of the text, under a global name -/
structure FunAt (K : PySem.W.Frag) (mg : Str → Option Value) (x nm : Str) (st : Stmt) (ps : List Str) : Prop where
  ex : ∃ (f : Addr) (fd : FuncData), Fun K nm nm st f fd ∧ mg x = some (.ref f) ∧ Binds K fd ps []
theorem Df.of {P : Program} {w : World} {K : PySem.W.Frag} {mg : Str → Option Value} {base : Heap} {x nm : Str} {st : Stmt} {N ps : List Str} {k : Nat} {sp : List D → (D → Prop) → Prop} (F : FunAt K mg x nm st ps)
    (S : FnScope N ps (defScope st)) (t : TSD) (hbody : ∀ (f : Addr) (cdv : Value) (A : Around) (outer : List Env) (s : Shared) (H : Hp) (E : XK), Room k (A.deeper (PyProof.Rows.envOfC nm (defScope st) s.heap.objs.size f cdv)) → PSsD (bodyX P w K mg base N nm st f cdv A outer s H E) (defBody st) t)
    (len : ∀ ds Q, sp ds Q → ds.length = ps.length) (hread : ∀ ds (Q : D → Prop), sp ds Q → t { nx := fun _ => Q .non, rt := Q } (initS N.length ds)) : Df P w K mg base (k + 1) x sp := by
  obtain ⟨f, fd, F, hm, hb⟩ := F.ex
  exact Df.mk' F hm hb S t (hbody f) len hread
end LD

namespace LD
open PySem PySem.Spec L2

/-! ### loops by what they fold -/
theorem at_split {α : Type} {xs : List α} {i : Nat} {x : α} (h : xs[i]? = some x) : xs = xs.take i ++ x :: xs.drop (i + 1) := by
  obtain ⟨hi, e⟩ := List.getElem?_eq_some_iff.mp h
  rw [← e, List.getElem_cons_drop, List.take_append_drop]
theorem map_at {α : Type} {xs : List α} {enc : α → D} {i : Nat} {d : D} (h : (xs.map enc)[i]? = some d) : ∃ x, xs[i]? = some x ∧ d = enc x := by
  rw [List.getElem?_map] at h
  cases q : xs[i]? with
  | none => rw [q] at h; cases h
  | some x => rw [q] at h; exact ⟨x, rfl, (Option.some.inj h).symm⟩
theorem take_succ_at {α : Type} {xs : List α} {i : Nat} {x : α} (h : xs[i]? = some x) : xs.take (i + 1) = xs.take i ++ [x] := by
  rw [List.take_succ, h]; rfl
/-- for: a fold; c: what else stands in the slots -/
theorem forI_fold {α β γ : Type} {xs : List α} {enc : α → D} {g : TGD} {tb : TSD} {Dd : DE} {sd : List Sl} (st : β → γ → List Sl) (f : β → α → β) (b0 : β) (c0 : γ) (h0 : sd = st b0 c0)
    (hstep : ∀ (pre : List α) (x : α) (post : List α), xs = pre ++ x :: post → ∀ (c : γ) (K : List Sl → Prop), (∀ c', K (st (f (pre.foldl f b0) x) c')) → g (enc x) (st (pre.foldl f b0) c) fun sd2 => tb { Dd with nx := K, ct := K, bk := Dd.nx } sd2)
    (hend : ∀ c, Dd.nx (st (xs.foldl f b0) c)) : forI (xs.map enc) g tb Dd sd := by
  unfold forI
  refine ⟨fun i s => ∃ c, s = st ((xs.take i).foldl f b0) c, ⟨c0, by rw [h0]; rfl⟩, fun i d s hd ⟨c, hs⟩ => ?_, fun s ⟨c, hs⟩ => ?_⟩
  · obtain ⟨x, hx, rfl⟩ := map_at hd
    subst hs
    refine hstep (xs.take i) x (xs.drop (i + 1)) (at_split hx) c _ fun c' => ⟨c', ?_⟩
    rw [take_succ_at hx, List.foldl_append]
    rfl
  · subst hs
    rw [List.length_map, List.take_length]
    exact hend c
/-- for: the state by a word of the part gone -/
theorem forI_inv {α γ : Type} {xs : List α} {enc : α → D} {g : TGD} {tb : TSD} {Dd : DE} {sd : List Sl} (I : List α → List Sl → Prop) (h0 : I [] sd)
    (hstep : ∀ (pre : List α) (x : α) (post : List α) (s : List Sl), xs = pre ++ x :: post → I pre s → g (enc x) s fun sd2 => tb { Dd with nx := I (pre ++ [x]), ct := I (pre ++ [x]), bk := Dd.nx } sd2)
    (hend : ∀ s, I xs s → Dd.nx s) : forI (xs.map enc) g tb Dd sd := by
  unfold forI
  refine ⟨fun i s => I (xs.take i) s, h0, fun i d s hd hs => ?_, fun s hs => ?_⟩
  · obtain ⟨x, hx, rfl⟩ := map_at hd
    have := hstep (xs.take i) x (xs.drop (i + 1)) s (at_split hx) hs
    rw [← take_succ_at hx] at this
    exact this
  · rw [List.length_map, List.take_length] at hs
    exact hend s hs
/-- for: a search; p: what is handed back at an item, if anything -/
theorem forI_find {α γ : Type} {xs : List α} {enc : α → D} {g : TGD} {tb : TSD} {Dd : DE} {sd : List Sl} (st : γ → List Sl) (p : α → Option D) (c0 : γ) (h0 : sd = st c0)
    (hstep : ∀ x, x ∈ xs → ∀ (c : γ) (K : List Sl → Prop), (p x = none → ∀ c', K (st c')) → (∀ d, p x = some d → Dd.rt d) → g (enc x) (st c) fun sd2 => tb { Dd with nx := K, ct := K, bk := Dd.nx } sd2)
    (hfound : ∀ d, xs.findSome? p = some d → Dd.rt d) (hend : xs.findSome? p = none → ∀ c, Dd.nx (st c)) : forI (xs.map enc) g tb Dd sd := by
  unfold forI
  have key : ∀ (ys : List α) (x : α) (zs : List α), xs = ys ++ x :: zs → ys.findSome? p = none → xs.findSome? p = (x :: zs).findSome? p := fun ys x zs e h => by
    rw [e, List.findSome?_append, h, Option.none_or]
  refine ⟨fun i s => (∃ c, s = st c) ∧ (xs.take i).findSome? p = none, ⟨⟨c0, h0⟩, rfl⟩, fun i d s hd ⟨⟨c, hs⟩, hn⟩ => ?_, fun s ⟨⟨c, hs⟩, hn⟩ => ?_⟩
  · obtain ⟨x, hx, rfl⟩ := map_at hd
    subst hs
    have hk := key _ x _ (at_split hx) hn
    refine hstep x (List.mem_of_getElem? hx) c _ (fun hp c' => ⟨⟨c', rfl⟩, ?_⟩) fun d hp => hfound d ?_
    · rw [take_succ_at hx, List.findSome?_append, hn, Option.none_or, List.findSome?_cons, hp]; rfl
    · rw [hk, List.findSome?_cons, hp]
  · subst hs
    rw [List.length_map, List.take_length] at hn
    exact hend hn c
/-- a comprehension: what is known of each item's value (none: left out) -/
theorem lcI_of {α : Type} {xs : List α} {enc : α → D} {g : TGD} {tt : TDB} {te : TD} {sdw : List Sl} {acc0 : List D} {Q : List D → Prop} (f : α → Option D) (hl : acc0.length + xs.length ≤ sizeLine)
    (hstep : ∀ x, x ∈ xs → ∀ K : Option D → Prop, K (f x) → g (enc x) sdw fun sd2 => tt sd2 fun b => ifB b (te sd2 fun y => K (some y)) (K none))
    (hend : Q (acc0 ++ xs.filterMap f)) : lcI (xs.map enc) g tt te sdw acc0 Q := by
  unfold lcI
  refine ⟨fun i acc => acc = acc0 ++ (xs.take i).filterMap f, by simp, fun i d acc hd ha => ?_, fun acc ha => ?_⟩
  · obtain ⟨x, hx, rfl⟩ := map_at hd
    have hi := (List.getElem?_eq_some_iff.mp hx).1
    have hlen : acc.length < sizeLine := by
      subst ha
      have h1 := List.length_filterMap_le f (xs.take i)
      rw [List.length_take] at h1
      rw [List.length_append]
      omega
    refine hstep x (List.mem_of_getElem? hx) (fun o => match o with | some y => acc.length < sizeLine ∧ acc ++ [y] = acc0 ++ (xs.take (i + 1)).filterMap f | none => acc = acc0 ++ (xs.take (i + 1)).filterMap f) ?_
    rw [take_succ_at hx, List.filterMap_append]
    cases q : f x with
    | none => simp [q, ha]
    | some y =>
      refine ⟨hlen, ?_⟩
      rw [ha]
      simp [q]
  · subst ha
    rw [List.length_map, List.take_length]
    exact hend
theorem filterMap_some {α β : Type} (f : α → β) : ∀ xs : List α, xs.filterMap (fun x => some (f x)) = xs.map f
  | [] => rfl
  | x :: xs => by simp [filterMap_some f xs]
/-- .. mapped, nothing left out -/
theorem lcI_map {α : Type} {xs : List α} {enc : α → D} {g : TGD} {te : TD} {sdw : List Sl} {acc0 : List D} {Q : List D → Prop} (f : α → D) (hl : acc0.length + xs.length ≤ sizeLine)
    (hstep : ∀ x, x ∈ xs → ∀ K : D → Prop, K (f x) → g (enc x) sdw fun sd2 => te sd2 K)
    (hend : Q (acc0 ++ xs.map f)) : lcI (xs.map enc) g (fun _ Q => Q true) te sdw acc0 Q := by
  refine lcI_of (fun x => some (f x)) hl (fun x hx K hK => hstep x hx (fun y => K (some y)) hK) ?_
  rw [filterMap_some]
  exact hend
/-- .. of which each value is as said -/
theorem lcI_all {α : Type} {xs : List α} {enc : α → D} {g : TGD} {te : TD} {sdw : List Sl} {Q : List D → Prop} (P : D → Prop) (hl : xs.length ≤ sizeLine)
    (hstep : ∀ x, x ∈ xs → ∀ K : D → Prop, (∀ y, P y → K y) → g (enc x) sdw fun sd2 => te sd2 K)
    (hend : ∀ acc, acc.length = xs.length → (∀ y ∈ acc, P y) → Q acc) : lcI (xs.map enc) g (fun _ Q => Q true) te sdw [] Q := by
  unfold lcI
  refine ⟨fun i acc => acc.length = min i xs.length ∧ ∀ y ∈ acc, P y, ⟨by simp, by simp⟩, fun i d acc hd ⟨ha, hp⟩ => ?_, fun acc ⟨ha, hp⟩ => ?_⟩
  · obtain ⟨x, hx, rfl⟩ := map_at hd
    have hi := (List.getElem?_eq_some_iff.mp hx).1
    refine hstep x (List.mem_of_getElem? hx) (fun y => acc.length < sizeLine ∧ (acc ++ [y]).length = min (i + 1) xs.length ∧ ∀ z ∈ acc ++ [y], P z) fun y hy => ⟨by omega, by rw [List.length_append, ha]; simp; omega, fun z hz => ?_⟩
    rcases List.mem_append.mp hz with h | h
    · exact hp z h
    · rw [List.mem_singleton] at h
      subst h; exact hy
  · rw [List.length_map, Nat.min_self] at ha
    exact hend acc ha hp
/-- a comprehension of two clauses -/
theorem lc2I_of {α : Type} {xs : List α} {enc : α → D} {g : TGD} {tt : TDB} {ti1 : TDL} {g1 : TGD} {tt1 : TDB} {te : TD} {sdw : List Sl} {vs1 : List Nat} {Q : List D → Prop} (ys : α → List D) (hl : (xs.flatMap ys).length ≤ sizeLine)
    (hstep : ∀ x, x ∈ xs → ∀ (acc : List D) (K : List D → Prop), acc.length + (ys x).length ≤ sizeLine → K (acc ++ ys x) → g (enc x) sdw fun sd2 => tt sd2 fun b => ifB b
      (ti1 (dropOwn sd2) fun ds1 => lcI ds1 g1 tt1 te (wipeD (dropOwn sd2) vs1) acc K) (K acc))
    (hend : Q (xs.flatMap ys)) : lc2I (xs.map enc) g tt ti1 g1 tt1 te sdw vs1 Q := by
  unfold lc2I
  refine ⟨fun i acc => acc = (xs.take i).flatMap ys, rfl, fun i d acc hd ha => ?_, fun acc ha => ?_⟩
  · obtain ⟨x, hx, rfl⟩ := map_at hd
    subst ha
    refine hstep x (List.mem_of_getElem? hx) _ _ ?_ ?_
    · have e := at_split hx
      have h2 : (xs.flatMap ys).length = ((xs.take i).flatMap ys).length + ((ys x).length + ((xs.drop (i + 1)).flatMap ys).length) := by
        conv => lhs; rw [e]
        rw [List.flatMap_append, List.flatMap_cons, List.length_append, List.length_append]
      omega
    · show _ = _
      rw [take_succ_at hx, List.flatMap_append]
      simp
  · subst ha
    rw [List.length_map, List.take_length]
    exact hend
/-- while: the state by a word of the slots, a measure -/
theorem while_st {β γ : Type} {c : TDB} {tb : TSD} {Dd : DE} {sd : List Sl} (st : β → γ → List Sl) (Inv : β → Prop) (μ : β → Nat) (b0 : β) (c0 : γ) (h0 : sd = st b0 c0) (hi : Inv b0)
    (hstep : ∀ b j, Inv b → ∀ (K : List Sl → Prop), (∀ b' j', Inv b' → μ b' < μ b → K (st b' j')) → c (st b j) fun k => ifB k (tb { Dd with nx := K, ct := K, bk := Dd.nx } (st b j)) (Dd.nx (st b j))) : dWhile c tb Dd sd := by
  unfold dWhile
  refine ⟨fun m s => ∃ b j, s = st b j ∧ Inv b ∧ μ b = m, ⟨_, b0, c0, h0, hi, rfl⟩, fun m s ⟨b, j, hs, hb, hm⟩ => ?_⟩
  subst hs hm
  exact hstep b j hb _ fun b' j' hb' hlt => ⟨μ b', hlt, b', j', rfl, hb', rfl⟩
theorem snoc_cases {α : Type} (l : List α) : l = [] ∨ ∃ a p, l = a ++ [p] := by
  by_cases h : l = []
  · exact .inl h
  · exact .inr ⟨l.dropLast, l.getLast h, (List.dropLast_concat_getLast h).symm⟩

/-! ### the readings' rows, one a form -/
section
variable {Q : D → Prop} {QB : Bool → Prop} {QI : Int → Prop} {QL : List D → Prop} {i j : Int} {a b : List D} {x y : Str} {p q : Bool} {Dd : DE} {d e : D} {lo hi : Option Int} {sd : List Sl}
theorem optQ_some {α : Type} {d : α} {Q : α → Prop} : optQ (some d) Q = Q d := rfl
theorem optQ_none {α : Type} {Q : α → Prop} : optQ none Q = False := rfl
theorem asB_bl : asB (.bl p) QB = QB p := rfl
theorem asI_int : asI (.int i) QI = QI i := rfl
theorem asSeq_lst : asSeq (.lst a) QL = QL a := rfl
theorem asSeq_tup : asSeq (.tup a) QL = QL a := rfl
theorem asSeq_scr : asSeq (.scr a) QL = QL a := rfl
theorem vAdd_int : vAdd (.int i) (.int j) Q = Q (.int (i + j)) := rfl
theorem vAdd_tup : vAdd (.tup a) (.tup b) Q = (a.length + b.length ≤ sizeLine ∧ Q (.tup (a ++ b))) := rfl
theorem vAdd_lst : vAdd (.lst a) (.lst b) Q = (a.length + b.length ≤ sizeLine ∧ Q (.lst (a ++ b))) := rfl
theorem vAdd_str : vAdd (.str x) (.str y) Q = (x.length + y.length ≤ sizeLine ∧ Q (.str (x ++ y))) := rfl
theorem vAddL_lst : vAddL (.lst a) (.lst b) Q = (a.length + b.length ≤ sizeLine ∧ Q (.lst (a ++ b))) := rfl
theorem vSub_int : vSub (.int i) (.int j) Q = Q (.int (i - j)) := rfl
theorem vI_int {C : Int → Int → Prop} {g : Int → Int → Int} : vI C g (.int i) (.int j) Q = (C i j ∧ Q (.int (g i j))) := rfl
theorem vMul_int : vMul (.int i) (.int j) Q = (CBig i j ∧ Q (.int (i * j))) := rfl
theorem vMul_lst : vMul (.lst a) (.int j) Q = (-(2 ^ 63) ≤ j ∧ j < 2 ^ 63 ∧ a.length * j.toNat ≤ sizeLine ∧ Q (.lst (List.replicate j.toNat a).flatten)) := rfl
theorem vMul_tup : vMul (.tup a) (.int j) Q = (a ≠ [] ∧ ((2 ≤ j ∧ j ≤ 1000 ∧ a.length ≤ 1000) ∨ j = 0) ∧ Q (.tup (List.replicate j.toNat a).flatten)) := rfl
theorem vMulL_lst : vMulL (.lst a) (.int j) Q = (-(2 ^ 63) ≤ j ∧ j < 2 ^ 63 ∧ a.length * j.toNat ≤ sizeLine ∧ Q (.lst (List.replicate j.toNat a).flatten)) := rfl
theorem vNeg_int : vNeg (.int i) Q = Q (.int (-i)) := rfl
theorem vCI_int {g : Int → Int → Bool} : vCI g (.int i) (.int j) QB = QB (g i j) := rfl
theorem vIs_non : vIs d .non QB = QB d.isNon := by cases d <;> rfl
theorem vIs_bl : vIs (.bl p) (.bl q) QB = QB (decide (p = q)) := rfl
theorem vIsNot_non : vIsNot d .non QB = QB (!d.isNon) := by cases d <;> rfl
theorem vIsNot_bl : vIsNot (.bl p) (.bl q) QB = QB (!decide (p = q)) := rfl
theorem vIn_lst : vIn d (.lst a) QB = ((okD d = true ∧ okD (.lst a) = true) ∧ QB (dIn d a)) := by cases d <;> rfl
theorem vIn_tup : vIn d (.tup a) QB = ((okD d = true ∧ okD (.tup a) = true) ∧ QB (dIn d a)) := by cases d <;> rfl
theorem vIn_str : vIn (.str x) (.str y) QB = QB (strIn x y) := rfl
theorem vNotIn_lst : vNotIn d (.lst a) QB = ((okD d = true ∧ okD (.lst a) = true) ∧ QB (!dIn d a)) := by cases d <;> rfl
theorem vNotIn_tup : vNotIn d (.tup a) QB = ((okD d = true ∧ okD (.tup a) = true) ∧ QB (!dIn d a)) := by cases d <;> rfl
theorem vNotIn_str : vNotIn (.str x) (.str y) QB = QB (!strIn x y) := rfl
theorem vIx_lst : vIx (.lst a) (.int i) Q = optQ (atI a i) Q := rfl
theorem vIx_tup : vIx (.tup a) (.int i) Q = optQ (atI a i) Q := rfl
theorem vIx_scr : vIx (.scr a) (.int i) Q = optQ (atI a i) Q := rfl
theorem vSl_lst : vSl (.lst a) lo hi Q = Q (.lst (cut a lo hi)) := rfl
theorem vSl_tup : vSl (.tup a) lo hi Q = Q (.tup (cut a lo hi)) := rfl
theorem vSl_str : vSl (.str x) lo hi Q = (x.length ≤ sizeLine ∧ Q (.str (cutS x lo hi))) := rfl
theorem vLen_lst : vLen [.lst a] Q = Q (.int a.length) := rfl
theorem vLen_tup : vLen [.tup a] Q = Q (.int a.length) := rfl
theorem vLen_scr : vLen [.scr a] Q = Q (.int a.length) := rfl
theorem vLen_str : vLen [.str x] Q = (x.length ≤ sizeLine ∧ Q (.int x.length)) := rfl
theorem vTup_lst : vTup [.lst a] Q = Q (.tup a) := rfl
theorem vTup_tup : vTup [.tup a] Q = Q (.tup a) := rfl
theorem vLst_lst : vLst [.lst a] Q = Q (.lst a) := rfl
theorem vLst_tup : vLst [.tup a] Q = Q (.lst a) := rfl
theorem vLst_scr : vLst [.scr a] Q = Q (.lst a) := rfl
theorem vInt_int : vInt [.int i] Q = Q (.int i) := rfl
theorem vMax2_int : vMax2 [.int i, .int j] Q = Q (.int (if j > i then j else i)) := rfl
theorem vMin2_int : vMin2 [.int i, .int j] Q = Q (.int (if j < i then j else i)) := rfl
theorem vIsi_non {T : String} : vIsi T .non QB = QB (isTy "NoneType" T) := rfl
theorem vIsi_bl {T : String} : vIsi T (.bl p) QB = QB (isTy "bool" T) := rfl
theorem vIsi_int {T : String} : vIsi T (.int i) QB = QB (isTy "int" T) := rfl
theorem vIsi_str {T : String} : vIsi T (.str x) QB = QB (isTy "str" T) := rfl
theorem vIsi_lst {T : String} : vIsi T (.lst a) QB = QB (isTy "list" T) := rfl
theorem vIsi_tup {T : String} : vIsi T (.tup a) QB = QB (isTy "tuple" T) := rfl
theorem isTy_ii : isTy "int" "int" = true := rfl
theorem isTy_ib : isTy "int" "bool" = false := by decide
theorem isTy_it : isTy "int" "tuple" = false := by decide
theorem isTy_is : isTy "int" "str" = false := by decide
theorem isTy_id : isTy "int" "dict" = false := by decide
theorem isTy_il : isTy "int" "list" = false := by decide
theorem isTy_tt : isTy "tuple" "tuple" = true := by decide
theorem isTy_ti : isTy "tuple" "int" = false := by decide
theorem isTy_tb : isTy "tuple" "bool" = false := by decide
theorem isTy_tl : isTy "tuple" "list" = false := by decide
theorem isTy_ts : isTy "tuple" "str" = false := by decide
theorem isTy_td : isTy "tuple" "dict" = false := by decide
theorem isTy_ll : isTy "list" "list" = true := by decide
theorem isTy_li : isTy "list" "int" = false := by decide
theorem isTy_lb : isTy "list" "bool" = false := by decide
theorem isTy_lt : isTy "list" "tuple" = false := by decide
theorem isTy_ls : isTy "list" "str" = false := by decide
theorem isTy_bb : isTy "bool" "bool" = true := by decide
theorem isTy_bi : isTy "bool" "int" = true := by decide
theorem isTy_ss : isTy "str" "str" = true := by decide
theorem isTy_nb : isTy "NoneType" "bool" = false := by decide
theorem isNon_non : D.isNon .non = true := rfl
theorem isNon_int : D.isNon (.int i) = false := rfl
theorem isNon_tup : D.isNon (.tup a) = false := rfl
theorem isNon_lst : D.isNon (.lst a) = false := rfl
theorem isNon_bl : D.isNon (.bl p) = false := rfl
theorem isNon_str : D.isNon (.str x) = false := rfl
theorem gT_tup {n : Nat} {t : TGsD} {Q : List Sl → Prop} : gT n t (.tup a) sd Q = (a.length = n ∧ t a sd Q) := rfl
theorem gCons_cons {t : TGD} {u : TGsD} {Q : List Sl → Prop} : gConsD t u (d :: a) sd Q = t d sd fun sd' => u a sd' Q := rfl
theorem gNil_nil {Q : List Sl → Prop} : gNilD [] sd Q = Q sd := by simp [gNilD]
theorem bVar0_dat {d : D} {r : List Sl} : bVar 0 (.dat d :: r) Q = Q d := rfl
theorem ifB_i {b : Bool} {A B : Prop} (h1 : b = true → A) (h2 : b = false → B) : ifB b A B := by
  cases b
  · exact h2 rfl
  · exact h1 rfl
theorem ifB_T {b : Bool} {A B : Prop} (h : b = true) (h1 : A) : ifB b A B := by subst h; exact h1
theorem ifB_F {b : Bool} {A B : Prop} (h : b = false) (h1 : B) : ifB b A B := by subst h; exact h1
theorem ifB_d {p : Prop} [Decidable p] {A B : Prop} (h1 : p → A) (h2 : ¬ p → B) : ifB (decide p) A B := by
  by_cases h : p
  · rw [decide_eq_true h]; exact h1 h
  · rw [decide_eq_false h]; exact h2 h
theorem ite_same_t {A B : Prop} : (if true = true then A else B) = A := if_pos rfl
theorem ite_same_f {A B : Prop} : (if false = true then A else B) = B := if_neg Bool.false_ne_true
theorem okD_int : okD (.int i) = true := rfl
theorem okD_non : okD .non = true := rfl
theorem okD_bl : okD (.bl p) = true := rfl
theorem deq_int : deq (.int i) (.int j) = (i == j) := rfl
theorem atI_map {α β : Type} {f : α → β} {l : List α} {i : Int} : atI (l.map f) i = (atI l i).map f := by
  unfold L2.atI
  rw [List.length_map]
  cases ixN l.length i with
  | none => rfl
  | some j => simp
theorem ixN_last {n : Nat} (h : 0 < n) : ixN n (-1) = some (n - 1) := by
  unfold ixN
  rw [if_neg (by omega), if_pos (by omega)]
  congr 1
  omega
theorem ixN_nat {n j : Nat} (h : j < n) : ixN n (j : Int) = some j := by
  unfold ixN
  rw [if_pos (by omega), if_pos (by omega)]
  simp
theorem snoc_set {α : Type} (a : List α) (p q : α) : (a ++ [p]).set ((a ++ [p]).length - 1) q = a ++ [q] := by
  rw [List.length_append]
  simp
end
end LD

namespace LD
open PySem PySem.Spec L2

/-! ### rows, runs, days -/
abbrev rowD (r : List Int) : D := .tup (r.map D.int)
abbrev pairD (p : Int × Int) : D := .tup [.int p.1, .int p.2]
def isRowB (r : List Int) : Bool := decide (r.length ≤ 60) && r.all fun x => decide (1 ≤ x) && decide (x ≤ 99)
def runsStep (acc : List (Int × Int)) (x : Int) : List (Int × Int) := match acc.getLast? with
  | some p => if p.2 = x then acc.dropLast ++ [(p.1 + 1, x)] else acc ++ [(1, x)]
  | none => [(1, x)]
def runsL (r : List Int) : List (Int × Int) := r.foldl runsStep []
def say (r : List Int) : List Int := (runsL r).flatMap fun p => [p.1, p.2]
def sayN : Nat → List Int → List Int
  | 0, r => r
  | k + 1, r => say (sayN k r)
def daysL (r : List Int) (n : Nat) : List (List Int) := (List.range (n + 1)).map fun k => sayN k r
theorem canLay_ints : ∀ r : List Int, PyData.canLayAll0 (D.pyL (r.map D.int)) = true
  | [] => rfl
  | x :: r => canLay_ints r
theorem depth_ints : ∀ r : List Int, PyData.depthAll (D.pyL (r.map D.int)) = 0
  | [] => rfl
  | x :: r => by
    have := depth_ints r
    show max 0 (PyData.depthAll (D.pyL (r.map D.int))) = 0
    rw [this]; rfl
theorem okD_row (r : List Int) : okD (.tup (r.map D.int)) = true := by
  show (PyData.canLay0 (.tuple (D.pyL (r.map D.int))) && decide (PyData.depth (.tuple (D.pyL (r.map D.int))) ≤ 64)) = true
  rw [PyData.canLay0, PyData.depth, canLay_ints, depth_ints]; rfl
/-- a list of things each of which is sound, none deeper than m -/
theorem canLay_map {α : Type} {f : α → D} (h : ∀ x, (f x).py.canLay0 = true) : ∀ r : List α, PyData.canLayAll0 (D.pyL (r.map f)) = true
  | [] => rfl
  | x :: r => by
    show (PyData.canLay0 (f x).py && PyData.canLayAll0 (D.pyL (r.map f))) = true
    rw [h x, canLay_map h r]; rfl
theorem depth_map {α : Type} {f : α → D} {m : Nat} (h : ∀ x, (f x).py.depth ≤ m) : ∀ r : List α, PyData.depthAll (D.pyL (r.map f)) ≤ m
  | [] => Nat.zero_le _
  | x :: r => by
    have h1 := h x
    have h2 := depth_map h r
    show max (PyData.depth (f x).py) (PyData.depthAll (D.pyL (r.map f))) ≤ m
    omega
theorem okD_lst {α : Type} {f : α → D} {m : Nat} (h : ∀ x, (f x).py.canLay0 = true) (h2 : ∀ x, (f x).py.depth ≤ m) (hm : m < 64) (r : List α) : okD (.lst (r.map f)) = true := by
  show (PyData.canLay0 (.list (D.pyL (r.map f))) && decide (PyData.depth (.list (D.pyL (r.map f))) ≤ 64)) = true
  rw [PyData.canLay0, PyData.depth, canLay_map h]
  have := depth_map h2 r
  rw [decide_eq_true (by omega)]; rfl
theorem okD_tup {α : Type} {f : α → D} {m : Nat} (h : ∀ x, (f x).py.canLay0 = true) (h2 : ∀ x, (f x).py.depth ≤ m) (hm : m < 64) (r : List α) : okD (.tup (r.map f)) = true := by
  show (PyData.canLay0 (.tuple (D.pyL (r.map f))) && decide (PyData.depth (.tuple (D.pyL (r.map f))) ≤ 64)) = true
  rw [PyData.canLay0, PyData.depth, canLay_map h]
  have := depth_map h2 r
  rw [decide_eq_true (by omega)]; rfl
theorem row_lay (r : List Int) : (rowD r).py.canLay0 = true := canLay_ints r
theorem row_depth (r : List Int) : (rowD r).py.depth ≤ 1 := by
  show PyData.depthAll (D.pyL (r.map D.int)) + 1 ≤ 1
  rw [depth_ints]; exact Nat.le_refl _
theorem okD_rows (rs : List (List Int)) : okD (.lst (rs.map rowD)) = true := okD_lst row_lay row_depth (by decide) rs
theorem okD_rowsT (rs : List (List Int)) : okD (.tup (rs.map rowD)) = true := okD_tup row_lay row_depth (by decide) rs
theorem okD_pairs (r : List (Int × Int)) : okD (.lst (r.map pairD)) = true := okD_lst (m := 1) (fun _ => rfl) (fun _ => Nat.le_refl _) (by decide) r
theorem okD_intsL (r : List Int) : okD (.lst (r.map D.int)) = true := okD_lst (m := 0) (fun _ => rfl) (fun _ => Nat.le_refl _) (by decide) r
theorem eqv_ints : ∀ a b : List Int, PyData.eqvAll (D.pyL (a.map D.int)) (D.pyL (b.map D.int)) = decide (a = b)
  | [], [] => rfl
  | [], _ :: _ => rfl
  | _ :: _, [] => rfl
  | x :: a, y :: b => by
    show ((x == y) && PyData.eqvAll (D.pyL (a.map D.int)) (D.pyL (b.map D.int))) = _
    rw [eqv_ints a b]
    by_cases h : x = y
    · subst h; simp
    · simp [h]
theorem deq_row (a b : List Int) : deq (.tup (a.map D.int)) (.tup (b.map D.int)) = decide (a = b) := eqv_ints a b
theorem deq_intsL (a b : List Int) : deq (.lst (a.map D.int)) (.lst (b.map D.int)) = decide (a = b) := eqv_ints a b
theorem eqv_map {α : Type} [DecidableEq α] {f : α → D} (h : ∀ x y, deq (f x) (f y) = decide (x = y)) : ∀ a b : List α, PyData.eqvAll (D.pyL (a.map f)) (D.pyL (b.map f)) = decide (a = b)
  | [], [] => rfl
  | [], _ :: _ => rfl
  | _ :: _, [] => rfl
  | x :: a, y :: b => by
    show (deq (f x) (f y) && PyData.eqvAll (D.pyL (a.map f)) (D.pyL (b.map f))) = _
    rw [eqv_map h a b, h x y]
    by_cases e : x = y
    · subst e; simp
    · simp [e]
theorem deq_rows (a b : List (List Int)) : deq (.lst (a.map rowD)) (.lst (b.map rowD)) = decide (a = b) := eqv_map deq_row a b
theorem deq_rowsT (a b : List (List Int)) : deq (.tup (a.map rowD)) (.tup (b.map rowD)) = decide (a = b) := eqv_map deq_row a b
theorem dIn_row (r : List Int) (rs : List (List Int)) : dIn (rowD r) (rs.map rowD) = decide (r ∈ rs) := by
  unfold dIn
  rw [List.any_map]
  induction rs with
  | nil => rfl
  | cons a rs ih =>
    rw [List.any_cons, ih]
    show (deq (rowD a) (rowD r) || _) = _
    rw [deq_row]
    by_cases h : a = r
    · subst h; simp
    · have : ¬ r = a := fun e => h e.symm
      simp [h, this]
theorem runsStep_len (acc : List (Int × Int)) (x : Int) : (runsStep acc x).length ≤ acc.length + 1 := by
  unfold runsStep
  split
  · rename_i p hp
    split
    · simp
    · simp
  · simp
theorem runs_len_aux : ∀ (r : List Int) (acc : List (Int × Int)), (r.foldl runsStep acc).length ≤ acc.length + r.length
  | [], acc => by simp
  | x :: r, acc => by
    have h1 := runs_len_aux r (runsStep acc x)
    have h2 := runsStep_len acc x
    simp only [List.foldl_cons, List.length_cons]
    omega
theorem runs_len (r : List Int) : (runsL r).length ≤ r.length := by
  have := runs_len_aux r []
  simpa [runsL] using this
theorem say_len_eq (r : List Int) : (say r).length = 2 * (runsL r).length := by
  unfold say
  induction runsL r with
  | nil => rfl
  | cons a b ih => simp at ih ⊢; omega
theorem say_len (r : List Int) : (say r).length ≤ 2 * r.length := by
  have := runs_len r
  rw [say_len_eq]; omega
/-- runs, from the left -/
def runsFrom (c a : Int) : List Int → List (Int × Int)
  | [] => [(c, a)]
  | x :: r => if a = x then runsFrom (c + 1) x r else (c, a) :: runsFrom 1 x r
theorem runs_from : ∀ (r : List Int) (acc : List (Int × Int)) (c a : Int), r.foldl runsStep (acc ++ [(c, a)]) = acc ++ runsFrom c a r
  | [], acc, c, a => rfl
  | x :: r, acc, c, a => by
    have e : runsStep (acc ++ [(c, a)]) x = if a = x then acc ++ [(c + 1, x)] else acc ++ [(c, a)] ++ [(1, x)] := by
      unfold runsStep
      rw [List.getLast?_concat]
      show (if a = x then (acc ++ [(c, a)]).dropLast ++ [(c + 1, x)] else acc ++ [(c, a)] ++ [(1, x)]) = _
      rw [List.dropLast_concat]
    rw [List.foldl_cons, e]
    by_cases h : a = x
    · rw [if_pos h, runs_from r acc (c + 1) x, runsFrom, if_pos h]
    · rw [if_neg h, runs_from r (acc ++ [(c, a)]) 1 x, runsFrom, if_neg h]
      simp
theorem runs_cons (x : Int) (r : List Int) : runsL (x :: r) = runsFrom 1 x r := by
  have := runs_from r [] 1 x
  simpa [runsL, runsStep] using this
end LD

namespace LD
open PySem PySem.Spec L2

/-! ### elders -/
def Pos1 (r : List Int) : Prop := ∀ x ∈ r, 1 ≤ x
/-- the least place of a what like the what ahead, p: the what ahead, k: its place -/
def barFrom (p : Int) (k : Nat) : List Int → Option Nat
  | [] => none
  | [_] => none
  | _ :: a :: r => if a = p then some k else barFrom a (k + 2) r
def barL (r : List Int) : Option Nat := if r.length % 2 = 1 then some r.length else match r with
  | _ :: a :: r => barFrom a 3 r
  | _ => none
def unsay : List Int → List Int
  | c :: a :: r => List.replicate c.toNat a ++ unsay r
  | _ => []
def elderL (r : List Int) : Option (List Int) := if barL r = none then some (unsay r) else none
/-- pairs (how many, what), no what like the one ahead, all counts 1 or more -/
def Good (p : Option Int) : List (Int × Int) → Prop
  | [] => True
  | (c, a) :: r => 1 ≤ c ∧ some a ≠ p ∧ Good (some a) r
def flat (ps : List (Int × Int)) : List Int := ps.flatMap fun p => [p.1, p.2]
def unrun (ps : List (Int × Int)) : List Int := ps.flatMap fun p => List.replicate p.1.toNat p.2
theorem flat_cons (c a : Int) (ps : List (Int × Int)) : flat ((c, a) :: ps) = c :: a :: flat ps := rfl
theorem unrun_cons (c a : Int) (ps : List (Int × Int)) : unrun ((c, a) :: ps) = List.replicate c.toNat a ++ unrun ps := rfl
theorem unsay_flat : ∀ ps : List (Int × Int), unsay (flat ps) = unrun ps
  | [] => rfl
  | (c, a) :: ps => by rw [flat_cons, unsay, unsay_flat ps, unrun_cons]
theorem runsFrom_rep : ∀ (k : Nat) (c a : Int) (r : List Int), runsFrom c a (List.replicate k a ++ r) = runsFrom (c + k) a r
  | 0, c, a, r => by simp
  | k + 1, c, a, r => by
    rw [List.replicate_succ, List.cons_append, runsFrom, if_pos rfl, runsFrom_rep k (c + 1) a r]
    congr 1
    omega
theorem runs_unrun : ∀ (ps : List (Int × Int)) (p : Option Int), Good p ps → runsL (unrun ps) = ps
  | [], _, _ => rfl
  | (c, a) :: ps, p, ⟨hc, _, hg⟩ => by
    have e1 : ∃ k : Nat, c.toNat = k + 1 := ⟨c.toNat - 1, by omega⟩
    obtain ⟨k, hk⟩ := e1
    rw [unrun_cons, hk, List.replicate_succ, List.cons_append, runs_cons, runsFrom_rep]
    have e2 : (1 : Int) + k = c := by omega
    rw [e2]
    have ih := runs_unrun ps (some a) hg
    match ps, hg, ih with
    | [], _, _ => rfl
    | (d, b) :: qs, ⟨hd, hne, hg2⟩, ih =>
      have e3 : ∃ k : Nat, d.toNat = k + 1 := ⟨d.toNat - 1, by omega⟩
      obtain ⟨j, hj⟩ := e3
      rw [unrun_cons, hj, List.replicate_succ, List.cons_append] at ih ⊢
      rw [runs_cons] at ih
      have hab : ¬ a = b := fun e => hne (by rw [e])
      rw [runsFrom, if_neg hab, ih]
theorem say_unrun {ps : List (Int × Int)} {p : Option Int} (h : Good p ps) : say (unrun ps) = flat ps := by
  unfold say
  rw [runs_unrun ps p h]; rfl
/-- runs are such pairs, and come of the row -/
theorem runsFrom_good : ∀ (r : List Int) (c a : Int), 1 ≤ c → ∀ p : Option Int, some a ≠ p → Good p (runsFrom c a r)
  | [], c, a, hc, p, hp => ⟨hc, hp, trivial⟩
  | x :: r, c, a, hc, p, hp => by
    rw [runsFrom]
    by_cases h : a = x
    · rw [if_pos h]; subst h; exact runsFrom_good r (c + 1) a (by omega) p hp
    · rw [if_neg h]
      exact ⟨hc, hp, runsFrom_good r 1 x (by omega) (some a) fun e => h (Option.some.inj e).symm⟩
theorem runs_good (r : List Int) : Good none (runsL r) := by
  cases r with
  | nil => trivial
  | cons x r => rw [runs_cons]; exact runsFrom_good r 1 x (by omega) none (by simp)
theorem unrun_from : ∀ (r : List Int) (c a : Int), 0 ≤ c → unrun (runsFrom c a r) = List.replicate c.toNat a ++ r
  | [], c, a, hc => by simp [runsFrom, unrun]
  | x :: r, c, a, hc => by
    rw [runsFrom]
    by_cases h : a = x
    · rw [if_pos h, unrun_from r (c + 1) x (by omega)]
      subst h
      have e : (c + 1).toNat = c.toNat + 1 := by omega
      rw [e, List.replicate_succ', List.append_assoc]; rfl
    · rw [if_neg h, unrun_cons, unrun_from r 1 x (by omega)]; rfl
theorem unrun_runs (r : List Int) : unrun (runsL r) = r := by
  cases r with
  | nil => rfl
  | cons x r => rw [runs_cons, unrun_from r 1 x (by omega)]; rfl
/-- a row of even length by its pairs -/
theorem pairs_of : ∀ (n : Nat) (r : List Int), r.length = 2 * n → ∃ ps : List (Int × Int), r = flat ps
  | 0, [], _ => ⟨[], rfl⟩
  | 0, _ :: _, h => by simp at h
  | n + 1, [], h => by simp at h
  | n + 1, [_], h => by simp at h; omega
  | n + 1, c :: a :: r, h => by
    obtain ⟨ps, e⟩ := pairs_of n r (by simp at h; omega)
    exact ⟨(c, a) :: ps, by rw [flat_cons, e]⟩
theorem bar_good : ∀ (ps : List (Int × Int)) (p : Int) (k : Nat), (∀ q ∈ ps, 1 ≤ q.1) → (barFrom p k (flat ps) = none ↔ Good (some p) ps)
  | [], p, k, _ => by simp [flat, barFrom, Good]
  | (c, a) :: ps, p, k, h => by
    rw [flat_cons, barFrom]
    have h1 := h (c, a) (by simp)
    by_cases e : a = p
    · rw [if_pos e]; subst e; simp [Good]
    · rw [if_neg e, bar_good ps a (k + 2) fun q hq => h q (by simp [hq])]
      constructor
      · intro g; exact ⟨h1, fun z => e (Option.some.inj z), g⟩
      · intro g; exact g.2.2
theorem pos_pairs {ps : List (Int × Int)} (h : Pos1 (flat ps)) : ∀ q ∈ ps, 1 ≤ q.1 := fun q hq => h q.1 (by
  unfold flat
  rw [List.mem_flatMap]
  exact ⟨q, hq, by simp⟩)
theorem elder_flat {ps : List (Int × Int)} (h : Pos1 (flat ps)) (g : Good none ps) : elderL (flat ps) = some (unrun ps) := by
  unfold elderL
  have hl : (flat ps).length % 2 = 0 := by
    have : (flat ps).length = 2 * ps.length := by
      unfold flat
      induction ps with
      | nil => rfl
      | cons a b ih =>
        have := ih (fun x hx => h x (by rw [flat] at *; simp [hx])) (by cases a; cases b with | nil => trivial | cons q b => exact ⟨g.2.2.1, by simp, g.2.2.2.2⟩)
        simp at this ⊢
        omega
    omega
  have hb : barL (flat ps) = none := by
    unfold barL
    rw [if_neg (by omega)]
    match ps, h, g with
    | [], _, _ => rfl
    | (c, a) :: ps, h, g =>
      rw [flat_cons]
      show barFrom a 3 (flat ps) = none
      rw [bar_good ps a 3 (fun q hq => pos_pairs h q (by simp [hq]))]
      exact g.2.2
  rw [if_pos hb, unsay_flat]
theorem elder_say {e : List Int} (h : Pos1 e) : elderL (say e) = some e := by
  have hg := runs_good e
  have hp : Pos1 (flat (runsL e)) := by
    intro x hx
    unfold flat at hx
    rw [List.mem_flatMap] at hx
    obtain ⟨q, hq, hx⟩ := hx
    have g2 : ∀ (ps : List (Int × Int)) (p : Option Int), Good p ps → ∀ q ∈ ps, 1 ≤ q.1 := by
      intro ps
      induction ps with
      | nil => intro _ _ q hq; cases hq
      | cons a b ih =>
        intro p g q hq
        rcases List.mem_cons.mp hq with rfl | hq
        · exact g.1
        · exact ih _ g.2.2 q hq
    simp at hx
    rcases hx with rfl | rfl
    · exact g2 _ _ hg q hq
    · refine h _ ?_
      rw [← unrun_runs e]
      unfold unrun
      rw [List.mem_flatMap]
      exact ⟨q, hq, by
        rw [List.mem_replicate]
        have := g2 _ _ hg q hq
        exact ⟨by omega, rfl⟩⟩
  have := elder_flat hp hg
  rw [unrun_runs] at this
  exact this
theorem say_elder {r e : List Int} (h : Pos1 r) (he : elderL r = some e) : say e = r := by
  unfold elderL at he
  by_cases hb : barL r = none
  · rw [if_pos hb] at he
    cases he
    unfold barL at hb
    by_cases ho : r.length % 2 = 1
    · rw [if_pos ho] at hb; cases hb
    · rw [if_neg ho] at hb
      obtain ⟨ps, rfl⟩ := pairs_of (r.length / 2) r (by omega)
      have hg : Good none ps := by
        match ps, h, hb with
        | [], _, _ => trivial
        | (c, a) :: ps, h, hb =>
          refine ⟨pos_pairs h (c, a) (by simp), by simp, ?_⟩
          rw [flat_cons] at hb
          exact (bar_good ps a 3 (fun q hq => pos_pairs h q (by simp [hq]))).mp hb
      rw [unsay_flat, say_unrun hg]
  · rw [if_neg hb] at he; cases he
theorem pos_say {e : List Int} (h : Pos1 e) : Pos1 (say e) := by
  intro x hx
  unfold say at hx
  rw [List.mem_flatMap] at hx
  obtain ⟨q, hq, hx⟩ := hx
  have g2 : ∀ (ps : List (Int × Int)) (p : Option Int), Good p ps → ∀ q ∈ ps, 1 ≤ q.1 := by
    intro ps
    induction ps with
    | nil => intro _ _ q hq; cases hq
    | cons a b ih =>
      intro p g q hq
      rcases List.mem_cons.mp hq with rfl | hq
      · exact g.1
      · exact ih _ g.2.2 q hq
  simp at hx
  rcases hx with rfl | rfl
  · exact g2 _ _ (runs_good e) q hq
  · refine h _ ?_
    rw [← unrun_runs e]
    unfold unrun
    rw [List.mem_flatMap]
    exact ⟨q, hq, by
      rw [List.mem_replicate]
      have := g2 _ _ (runs_good e) q hq
      exact ⟨by omega, rfl⟩⟩
theorem pos_sayN {e : List Int} (h : Pos1 e) : ∀ n, Pos1 (sayN n e)
  | 0 => h
  | n + 1 => pos_say (pos_sayN h n)
theorem pos_elder {r e : List Int} (h : Pos1 r) (he : elderL r = some e) : Pos1 e := by
  unfold elderL at he
  split at he
  · cases he
    have : ∀ (n : Nat) (r : List Int), r.length ≤ n → Pos1 r → Pos1 (unsay r) := by
      intro n
      induction n with
      | zero => intro r hr _; cases r with | nil => intro x hx; cases hx | cons a b => simp at hr
      | succ n ih =>
        intro r hr hp
        match r, hr, hp with
        | [], _, _ => intro x hx; cases hx
        | [_], _, _ => intro x hx; cases hx
        | c :: a :: r, hr, hp =>
          intro x hx
          rw [unsay] at hx
          rcases List.mem_append.mp hx with hx | hx
          · rw [List.mem_replicate] at hx
            rw [hx.2]; exact hp a (by simp)
          · exact ih r (by simp at hr; omega) (fun y hy => hp y (by simp [hy])) x hx
    exact this _ r (Nat.le_refl _) h
  · cases he
/-- es: the elders of r, one behind the other, all of them -/
inductive Elders : List Int → List (List Int) → Prop
  | nil {r : List Int} : elderL r = none → Elders r []
  | cons {r e : List Int} {es : List (List Int)} : elderL r = some e → Elders e es → Elders r (e :: es)
theorem Elders.inj {r : List Int} {es fs : List (List Int)} (h : Elders r es) (h' : Elders r fs) : es = fs := by
  induction h generalizing fs with
  | nil a => cases h' with
    | nil _ => rfl
    | cons b _ => rw [a] at b; cases b
  | cons a _ ih => cases h' with
    | nil b => rw [a] at b; cases b
    | cons b c => rw [a] at b; cases b; rw [ih c]
theorem Elders.say {r : List Int} {es : List (List Int)} (hp : Pos1 r) (h : Elders r es) : Elders (say r) (r :: es) := .cons (elder_say hp) h
theorem Elders.sayN {r : List Int} {es : List (List Int)} (hp : Pos1 r) (h : Elders r es) : ∀ n, ∃ fs, Elders (sayN n r) fs ∧ fs.length = n + es.length ∧ (∀ k, k < n → fs[k]? = some (LD.sayN (n - 1 - k) r)) ∧ ∀ k, fs[n + k]? = es[k]?
  | 0 => ⟨es, h, by simp, fun k hk => absurd hk (by omega), fun k => by simp⟩
  | n + 1 => by
    obtain ⟨fs, h1, h2, h3, h4⟩ := Elders.sayN hp h n
    refine ⟨LD.sayN n r :: fs, h1.say (pos_sayN hp n), by simp [h2]; omega, fun k hk => ?_, fun k => ?_⟩
    · cases k with
      | zero => simp
      | succ k =>
        rw [List.getElem?_cons_succ, h3 k (by omega)]
        congr 2
        omega
    · rw [show n + 1 + k = (n + k) + 1 by omega, List.getElem?_cons_succ, h4]
end LD

namespace LD
open PySem PySem.Spec L2
/-! ### range(a, b, c) -/
def rgcD (lo c : Int) (n : Nat) : List D := (List.range n).map fun i => D.int (lo + (i : Nat) * c)
theorem rgcD_length (lo c : Int) (n : Nat) : (rgcD lo c n).length = n := by simp [rgcD]
theorem rgcD_get {lo c : Int} {n i : Nat} {d : D} (h : (rgcD lo c n)[i]? = some d) : i < n ∧ d = .int (lo + (i : Nat) * c) := by
  have hi : i < n := by
    have := (List.getElem?_eq_some_iff.mp h).1
    simpa [rgcD] using this
  refine ⟨hi, ?_⟩
  unfold rgcD at h
  rw [List.getElem?_map, List.getElem?_range hi] at h
  simpa using h.symm
theorem jok_rngC {K : PySem.W.Frag} {G : Hp} (lo c : Int) (n : Nat) : JOk K G (Itc lo c n) (rgcD lo c n) where
  go := fun G' H i s1 s2 hi => by rw [rgcD_length] at hi; exact hi
  stop := fun G' H i s1 s2 hi => by rw [rgcD_length] at hi; exact hi
  yld := fun G' H i x H' d s1 s2 hd hy => by
    obtain ⟨rfl, rfl⟩ := hy
    obtain ⟨_, rfl⟩ := rgcD_get hd
    exact ⟨G', .refl s2, .int _⟩
section
variable {X : Cx} {tg a b c : Expr} {ta tb tc : TD} {p pos : Pos}
inductive Rng3 (Q : List D → Prop) : D → D → D → Prop
  | mk {i j c : Int} (n : Nat) (h : RgC i j c n) (q : Q (rgcD i c n)) : Rng3 Q (.int i) (.int j) (.int c)
def dRng3 (ta tb tc : TD) : TDL := fun sd Q => ta sd fun d => tb sd fun e => tc sd fun f => Rng3 Q d e f
theorem pid_rng3 (hg : Gl X "range") (hm : X.mg "range" = none) (ha : PD X a ta) (hb : PD X b tb) (hc : PD X c tc) (hs : starEach [a, b, c] X.env = (false, eval a X.env) :: starEach [b, c] X.env := by rfl) (hs2 : starEach [b, c] X.env = (false, eval b X.env) :: starEach [c] X.env := by rfl) (hs3 : starEach [c] X.env = (false, eval c X.env) :: starEach [] X.env := by rfl) (hpl : (backTo pos (starEach [b, c] X.env)).any (·.1) = false := by rfl) :
    PID X tg (.Call (.Name "range" p) [a, b, c] [] pos) (dRng3 ta tb tc) := by
  obtain ⟨t1, a1, a2⟩ := ha.ex
  obtain ⟨t2, b1, b2⟩ := hb.ex
  obtain ⟨t3, c1, c2⟩ := hc.ex
  refine ⟨_, pi_range3 hg hm (pa_cons a1 (pa_cons b1 (pa_cons c1 pa_nil hs3) hs2) hs) hs hpl, fun r q k => a2 r q fun G1 H1 v d e1 r1 z1 => b2 (r.to e1) z1 fun G2 H2 u e e2 r2 z2 => c2 ((r.to e1).to e2) z2 fun G3 H3 w f e3 r3 z3 => ?_⟩
  cases z3 with
  | mk n hn z =>
    cases r1
    cases r2
    cases r3
    exact ⟨_, _, _, n, rfl, hn, k _ _ _ _ (e1.trans (e2.trans e3)) (jok_rngC _ _ _) z⟩
end
theorem RgC.two {i j : Int} (hi : 0 ≤ i) (hi' : i ≤ 100000000) (hj : 0 ≤ j) (hj' : j ≤ 100000000) : RgC i j 2 ((j - i + 1) / 2).toNat := by
  have e : Builtin.Range.rangeSize i j 2 = (((j - i + 1) / 2).toNat : Int) := by
    unfold Builtin.Range.rangeSize
    rw [if_pos (by decide)]
    split <;> omega
  refine ⟨by omega, by omega, ?_, e⟩
  unfold Builtin.Range.small
  rw [e]
  simp only [Builtin.Range.rangeFitsLong, Bool.and_eq_true, Bool.or_eq_true, decide_eq_true_eq, beq_iff_eq, show ((2 : Int) > 0) by decide, if_true]
  omega
end LD

namespace LD
open PySem PySem.Spec L2

/-! ### the dict of draws: three entries, two of them ints of any size that nobody looks at from outside -/
def drwK (c : Addr) (n m : Int) : List (Key × V) := [(.inr "whole", .int n), (.inr "cells", .ref c), (.inr "count", .int m)]
def DrwΦ (P : Program) (w : World) (c a : Addr) (h : Heap) : Prop := (a == sysModules) = false ∧ ∃ (n m : Int) (vs : List (Key × Value)), KV (drwK c n m) vs ∧ h.DictOf (mixKind P w) a vs
abbrev drw (P : Program) (w : World) : D := .drw (DrwΦ P w)
theorem upd_id {H : Hp} {a : Addr} {o : HO} (h : H a = some o) : upd H a o = H := by
  funext b; unfold upd; split
  · rename_i e; rw [e, h]
  · rfl
theorem upd_back {H : Hp} {a : Addr} {o u : HO} (h : H a = some o) : upd (upd H a u) a o = H := by rw [upd_upd, upd_id h]
/-- draw['whole'], draw['count'] -/
def tDrwG (X : Cx) (i : Nat) : TE := fun σ H R => ∃ a c, σ[i]? = some (some (.ref a)) ∧ H a = some (.ext (DrwΦ X.prog X.w c a)) ∧ ∀ n : Int, R (.int n) H
def tDrwC (X : Cx) (i : Nat) : TE := fun σ H R => ∃ a c, σ[i]? = some (some (.ref a)) ∧ H a = some (.ext (DrwΦ X.prog X.w c a)) ∧ R (.ref c) H
theorem kWC : ¬ (("whole" : Str) = "count") := by decide
theorem kCW : ¬ (("count" : Str) = "whole") := by decide
theorem kLW : ¬ (("cells" : Str) = "whole") := by decide
theorem kLC : ¬ (("cells" : Str) = "count") := by decide
theorem kWL : ¬ (("whole" : Str) = "cells") := by decide
theorem val_whole {c : Addr} {n m : Int} : valV (drwK c n m) (.inr "whole") = some (.int n) := valV_pos rfl
theorem val_cells {c : Addr} {n m : Int} : valV (drwK c n m) (.inr "cells") = some (.ref c) := by
  unfold drwK
  rw [valV_neg (by intro z; exact kWL (Sum.inr.inj z))]
  exact valV_pos rfl
theorem val_count {c : Addr} {n m : Int} : valV (drwK c n m) (.inr "count") = some (.int m) := by
  unfold drwK
  rw [valV_neg (by intro z; exact kWC (Sum.inr.inj z)), valV_neg (by intro z; exact kLC (Sum.inr.inj z))]
  exact valV_pos rfl
theorem put_whole {c : Addr} {n m k : Int} : putK (drwK c n m) (.inr "whole") (.int k) = drwK c k m := by
  unfold drwK putK
  rw [if_pos (by simp)]
  simp [kCW, kLW]
theorem put_count {c : Addr} {n m k : Int} : putK (drwK c n m) (.inr "count") (.int k) = drwK c n k := by
  unfold drwK putK
  rw [if_pos (by simp)]
  simp [kWC, kLC]
theorem drwK_len {c : Addr} {n m : Int} : (drwK c n m).length < sizeLine := by
  rw [sizeLine_eq]; show 3 < _; decide
section
variable {X : Cx} {pins : List (Addr × Obj)} {σ : L2.St} {H : Hp} {s : Shared} {a c : Addr}
theorem drw_open (I : Inv X pins σ H s) (h : H a = some (.ext (DrwΦ X.prog X.w c a))) : ∃ n m, Inv X pins σ (upd H a (.dK (drwK c n m))) s := by
  obtain ⟨⟨hd, n, m, vs, kv, dd⟩, he, _⟩ := I.hok a _ h
  refine ⟨n, m, ?_⟩
  have := I.write (x := a) (e := a) (o := .dK (drwK c n m)) (h' := s.heap) (t' := s.toks) (by rw [h]; exact True.intro) (.inl rfl) (fun b q _ z => z) he ⟨Nat.le_of_lt drwK_len, hd, vs, kv, dd⟩
  exact this
theorem drw_close {n m : Int} (I : Inv X pins σ H s) (h : H a = some (.dK (drwK c n m))) : Inv X pins σ (upd H a (.ext (DrwΦ X.prog X.w c a))) s := by
  obtain ⟨z, hd, vs, kv, o, es, ep, ho, r⟩ := I.hok a _ h
  have := I.write (x := a) (e := a) (o := .ext (DrwΦ X.prog X.w c a)) (h' := s.heap) (t' := s.toks) (by rw [h]; exact True.intro) (.inl rfl) (fun b q _ z => z) ⟨o, ho⟩
    ⟨⟨hd, n, m, vs, kv, o, es, ep, ho, r⟩, ⟨o, ho⟩, fun h1 h2 ⟨hd, n, m, vs, kv, o, es, ep, ho, r⟩ k => ⟨hd, n, m, vs, kv, o, es, ep, k _ ho, r⟩⟩
  exact this
end
section
variable {X : Cx} {i : Nat} {x : Str} {pos pos' p1 p2 : Pos} {j : Nat} {value : Expr} {te : TD}
theorem pe_drwG {key : Str} (hk : key = "whole" ∨ key = "count") (hu : X.A.units + 1 < cLine) (hn : PE X (.Name x p1) (tVar i)) : PE X (.Subscript (.Name x p1) (.Constant (.str key) j p2) pos) (tDrwG X i) := by
  refine ⟨fun pins s σ H Q I ⟨a, c, h1, h2, q⟩ => ?_⟩
  obtain ⟨n, m, I1⟩ := drw_open I h2
  refine thn ((pe_dget hu hn (pe_str (x := key)) (by intro ov iv; rfl)).run pins s σ _ (fun v H' => (∃ n : Int, v = .int n) ∧ H' = upd H a (.dK (drwK c n m))) I1 ?_) ?_
  · refine ⟨.ref a, h1, a, ?_⟩
    rcases hk with rfl | rfl
    · exact ⟨.int n, rfl, by have := DGet.k (k := .inr "whole") (upd_same (H := H) (a := a) (o := .dK (drwK c n m))); rw [val_whole] at this; exact this, ⟨_, rfl⟩, rfl⟩
    · exact ⟨.int m, rfl, by have := DGet.k (k := .inr "count") (upd_same (H := H) (a := a) (o := .dK (drwK c n m))); rw [val_count] at this; exact this, ⟨_, rfl⟩, rfl⟩
  · rintro v s1 ⟨v', H', I2, rv, ⟨⟨k, rfl⟩, rfl⟩⟩
    have I3 := drw_close I2 upd_same
    rw [upd_back h2] at I3
    exact ⟨_, H, I3, rv, q k⟩
theorem pe_drwC (hu : X.A.units + 1 < cLine) (hn : PE X (.Name x p1) (tVar i)) : PE X (.Subscript (.Name x p1) (.Constant (.str "cells") j p2) pos) (tDrwC X i) := by
  refine ⟨fun pins s σ H Q I ⟨a, c, h1, h2, q⟩ => ?_⟩
  obtain ⟨n, m, I1⟩ := drw_open I h2
  refine thn ((pe_dget hu hn (pe_str (x := "cells")) (by intro ov iv; rfl)).run pins s σ _ (fun v H' => v = .ref c ∧ H' = upd H a (.dK (drwK c n m))) I1 ?_) ?_
  · refine ⟨.ref a, h1, a, .ref c, rfl, ?_, rfl, rfl⟩
    have := DGet.k (k := .inr "cells") (upd_same (H := H) (a := a) (o := .dK (drwK c n m))); rw [val_cells] at this; exact this
  · rintro v s1 ⟨v', H', I2, rv, ⟨rfl, rfl⟩⟩
    have I3 := drw_close I2 upd_same
    rw [upd_back h2] at I3
    exact ⟨_, H, I3, rv, q⟩
def isDrw : Option Sl → Prop → Prop
  | some (.dat (.drw _)), Q => Q
  | _, _ => False
def dDrwG (P : Program) (w : World) (i : Nat) : TD := fun sd Q => sd[i]? = some (.dat (drw P w)) ∧ ∀ n : Int, Q (.int n)
def dDrwC (P : Program) (w : World) (i : Nat) : TD := fun sd Q => sd[i]? = some (.dat (drw P w)) ∧ ∀ cs : List Int, cs.length ≤ 64 → Q (.lst (cs.map D.int))
theorem pd_drwG (P : Program) (w : World) (i : Nat) {key : Str} (hk : key = "whole" ∨ key = "count") (hu : X.A.units + 1 < cLine) (hN : X.N[i]? = some x := by rfl) (hv : Vis X.env.scope x := by first | exact Or.inl rfl | exact Or.inr (Or.inl rfl) | exact Or.inr (Or.inr rfl)) (hd : (x == ("__debug__" : Str)) = false := by decide)
    (hcd : (x == ("__classdict__" : Str)) = false := by decide) (hP : X.prog = P := by rfl) (hw : X.w = w := by rfl) : PD X (.Subscript (.Name x p1) (.Constant (.str key) j p2) pos) (dDrwG P w i) := by
  subst hP hw
  refine ⟨tDrwG X i, pe_drwG hk hu (pe_var hN hv hd hcd), fun {G0 H0 G H σ sd Q R} r q k => ?_⟩
  obtain ⟨q1, q2⟩ := q
  obtain ⟨v, h1, h2⟩ := r.dat i _ q1
  cases h2 with
  | drw e g l => exact ⟨_, _, h1, r.same _ _ e, fun n => k G H _ _ (.refl r.same) (.int n) (q2 n)⟩
theorem pd_drwC (P : Program) (w : World) (i : Nat) (hu : X.A.units + 1 < cLine) (hN : X.N[i]? = some x := by rfl) (hv : Vis X.env.scope x := by first | exact Or.inl rfl | exact Or.inr (Or.inl rfl) | exact Or.inr (Or.inr rfl)) (hd : (x == ("__debug__" : Str)) = false := by decide)
    (hcd : (x == ("__classdict__" : Str)) = false := by decide) (hP : X.prog = P := by rfl) (hw : X.w = w := by rfl) : PD X (.Subscript (.Name x p1) (.Constant (.str "cells") j p2) pos) (dDrwC P w i) := by
  subst hP hw
  refine ⟨tDrwC X i, pe_drwC hu (pe_var hN hv hd hcd), fun {G0 H0 G H σ sd Q R} r q k => ?_⟩
  obtain ⟨q1, q2⟩ := q
  obtain ⟨v, h1, h2⟩ := r.dat i _ q1
  cases h2 with
  | drw e g l => exact ⟨_, _, h1, r.same _ _ e, k G H _ _ (.refl r.same) (.lst g (RepL.of_ints _)) (q2 _ l)⟩
/-- draw['whole'] = e -/
def dDrwPut (P : Program) (w : World) (i : Nat) (te : TD) : TSD := fun D sd => te sd fun d => (∃ n : Int, d = .int n) ∧ sd[i]? = some (.dat (drw P w)) ∧ D.nx sd
theorem psd_drwPut (P : Program) (w : World) (i : Nat) {key : Str} (hk : key = "whole" ∨ key = "count") (hu : X.A.units + 1 < cLine) (he : PD X value te) (hN : X.N[i]? = some x := by rfl) (hv : Vis X.env.scope x := by first | exact Or.inl rfl | exact Or.inr (Or.inl rfl) | exact Or.inr (Or.inr rfl)) (hd : (x == ("__debug__" : Str)) = false := by decide)
    (hcd : (x == ("__classdict__" : Str)) = false := by decide) (hs : swapsWith value (some (.Subscript (.Name x p1) (.Constant (.str key) j p2) pos')) pos.line X.env = pure false := by rfl) (hP : X.prog = P := by rfl) (hw : X.w = w := by rfl) :
    PSD X (.Assign [.Subscript (.Name x p1) (.Constant (.str key) j p2) pos'] value pos) (dDrwPut P w i te) := by
  subst hP hw
  obtain ⟨t1, a1, a2⟩ := he.ex
  have hn : PE X (.Name x p1) (tVar i) := pe_var hN hv hd hcd
  refine ⟨fun D σ H => t1 σ H fun v H1 => ∃ a c, ∃ k : Int, σ[i]? = some (some (.ref a)) ∧ H1 a = some (.ext (DrwΦ X.prog X.w c a)) ∧ v = .int k ∧ D.nx σ H1, ?_, fun {Gs G0 H0 G H σ sd Dd D} s r o q => a2 r q fun G' H' v d ex rv z => ?_⟩
  · refine ⟨fun pins s σ H D I h => ?_⟩
    refine wpAny_Assign_Subscript (thn (a1.run pins s σ H _ I h) fun r s1 ⟨v, H1, I1, rv, a, c, k, h1, h2, ev, q1⟩ => ?_) hs
    subst ev
    obtain ⟨n, m, I1'⟩ := drw_open I1 h2
    refine thn (hn.run pins s1 σ _ (fun v H' => v = .ref a ∧ H' = upd H1 a (.dK (drwK c n m))) I1' ⟨.ref a, h1, rfl, rfl⟩) fun u s2 ⟨x, H2, I2, rx, e1, e2⟩ => thn ((pe_str (X := X) (x := key) (pos := p2) (j := j)).run pins s2 σ H2 (fun v H' => v = .str key ∧ H' = H2) I2 ⟨rfl, rfl⟩) fun iv s3 ⟨y, H3, I3, ry, e3, e4⟩ => ?_
    subst e1 e2 e3 e4
    obtain rfl : u = Value.ref a := rx
    have hl : (drwK c n m).length < sizeLine := drwK_len
    have fin : ∀ n' m' s4, Inv X pins σ (upd (upd H1 a (.dK (drwK c n m))) a (.dK (drwK c n' m'))) s4 → Inv X pins σ H1 s4 := fun n' m' s4 I4 => by
      have I5 := drw_close I4 upd_same
      rw [upd_upd, upd_back h2] at I5
      exact I5
    rcases hk with rfl | rfl
    · refine d_setItem hu I3 (DPut.k (k := .inr "whole") (v := .int k) upd_same hl) ry rv fun s4 I4 => ⟨σ, H1, ?_, q1⟩
      rw [put_whole] at I4
      exact fin _ _ _ I4
    · refine d_setItem hu I3 (DPut.k (k := .inr "count") (v := .int k) upd_same hl) ry rv fun s4 I4 => ⟨σ, H1, ?_, q1⟩
      rw [put_count] at I4
      exact fin _ _ _ I4
  · obtain ⟨⟨n, rfl⟩, hi, z⟩ := z
    obtain ⟨u, h1, h2⟩ := (r.to ex).dat i _ hi
    cases rv
    cases h2 with
    | drw e g l => exact ⟨_, _, n, h1, ex.gh _ _ e, rfl, o.nx _ _ _ _ (s.trans ex.gg) (r.to ex) z⟩
/-- {'whole': n, 'cells': cs, 'count': m} -/
def dDrwNew (P : Program) (w : World) (t1 t2 t3 : TD) : TD := fun sd Q => t1 sd fun d1 => t2 sd fun d2 => t3 sd fun d3 => (∃ n : Int, d1 = .int n) ∧ (∃ cs : List Int, d2 = .lst (cs.map D.int) ∧ cs.length ≤ 64) ∧ (∃ n : Int, d3 = .int n) ∧ Q (drw P w)
theorem pd_drwNew (P : Program) (w : World) {e1 e2 e3 : Expr} {t1 t2 t3 : TD} {j1 j2 j3 : Nat} {q1 q2 q3 : Pos} (h1 : PD X e1 t1) (h2 : PD X e2 t2) (h3 : PD X e3 t3) (hP : X.prog = P := by rfl) (hw : X.w = w := by rfl) :
    PD X (.Dict [some (.Constant (.str "whole") j1 q1), some (.Constant (.str "cells") j2 q2), some (.Constant (.str "count") j3 q3)] [e1, e2, e3] pos) (dDrwNew P w t1 t2 t3) := by
  subst hP hw
  obtain ⟨u1, a1, b1⟩ := h1.ex
  obtain ⟨u2, a2, b2⟩ := h2.ex
  obtain ⟨u3, a3, b3⟩ := h3.ex
  have hd := pe_disp (pos := pos) (pps_cons (X := X) (pos := pos) (pe_str (x := "whole") (pos := q1) (j := j1)) a1 (pps_cons (pe_str (x := "cells") (pos := q2) (j := j2)) a2 (pps_cons (pe_str (x := "count") (pos := q3) (j := j3)) a3 pps_nil))) rfl rfl (by simp) (by simp)
  refine ⟨fun σ H R => tDisp [(tC (V.str "whole"), u1), (tC (V.str "cells"), u2), (tC (V.str "count"), u3)] σ H fun v H' => ∃ p c, ∃ n m : Int, v = .ref p ∧ H' p = some (.dK (drwK c n m)) ∧ R v (upd H' p (.ext (DrwΦ X.prog X.w c p))), ⟨fun pins s σ H Q I h => ?_⟩, fun {G0 H0 G H σ sd Q R} r q k p hp => ?_⟩
  · refine thn (hd.run pins s σ H _ I h) ?_
    rintro v s1 ⟨v', H', I1, rv, p, c, n, m, rfl, hc, q⟩
    exact ⟨_, _, drw_close I1 hc, rv, q⟩
  · have E0 := Ext.loose (o := .dK []) r.same hp
    have g0 : G p = none := r.same.free hp
    refine b1 (r.to E0) q fun G1 H1 v1 d1 ex1 r1 z1 => b2 ((r.to E0).to ex1) z1 fun G2 H2 v2 d2 ex2 r2 z2 => b3 (((r.to E0).to ex1).to ex2) z2 fun G3 H3 v3 d3 ex3 r3 z3 => ?_
    obtain ⟨⟨n, rfl⟩, ⟨cs, rfl, hl⟩, ⟨m, rfl⟩, z⟩ := z3
    have ex := ex1.trans (ex2.trans ex3)
    have p3 := ex.hh _ _ (upd_same (H := H) (a := p) (o := .dK []))
    have g3 := ex.none (upd_same (H := H) (a := p) (o := .dK [])) g0
    have hv1 : v1 = .int n := by cases r1; rfl
    have hv3 : v3 = .int m := by cases r3; rfl
    subst hv1 hv3
    have r2' := r2.same ex3.gg
    cases r2 with
    | lst hc rs =>
      rename_i c xs
      have hc3 := ex3.gg _ _ hc
      rw [rs.ints] at hc3
      have hne : c ≠ p := fun z => by subst z; rw [g3] at hc3; cases hc3
      refine ⟨p3, drwK c n m, rfl, show 3 ≤ 15 by decide, p, c, n, m, rfl, ?_, ?_⟩
      · rw [upd_same]; rfl
      rw [upd_upd]
      have E : Ext G H (upd G3 p (.ext (DrwΦ X.prog X.w c p))) (upd H3 p (.ext (DrwΦ X.prog X.w c p))) := by
        have E1 := E0.trans ex
        refine ⟨fun a u e => ?_, fun a u e => ?_, fun a u e => ?_, fun a u e => ?_⟩
        · rw [upd_ne (ne_of_none e hp)]; exact E1.hh _ _ e
        · rw [upd_ne (ne_of_none e g0)]; exact E1.gg _ _ e
        · by_cases q : a = p
          · subst q; rw [upd_same] at e ⊢; exact e
          · rw [upd_ne q] at e ⊢; exact ex.gh _ _ e
        · by_cases q : a = p
          · subst q; exact .inr hp
          · rw [upd_ne q] at e; exact E1.new _ _ e
      exact k _ _ _ _ E (.drw upd_same (by rw [upd_ne hne]; exact hc3) hl) z
end
end LD

namespace LD
open PySem PySem.Spec L2
theorem hu1 {k : Nat} {A : Around} (hr : Room k A) : A.units + 1 < cLine := by have := hr.un; omega
theorem cp {i j : Int} (h : (decide (0 ≤ j) && (decide (j ≤ 1000000) && decide (i.natAbs < 18446744073709551616))) = true := by decide) : CPow i j := by
  simp only [Bool.and_eq_true, decide_eq_true_eq] at h
  exact ⟨h.1, h.2.1, h.2.2⟩
theorem mulS_l {i j : Int} (h : -(2 ^ 64) < i ∧ i < 2 ^ 64) : CBig i j := CMul.ok (.inl h)
theorem mulS_r {i j : Int} (h : -(2 ^ 64) < j ∧ j < 2 ^ 64) : CBig i j := CMul.ok (.inr h)
theorem log_of {n : Int} {k : Nat} (h : n.natAbs < 2 ^ k) (hk : k ≤ 9000 := by decide) (h0 : 0 < k := by decide) : n.natAbs.log2 < 9000 := Nat.lt_of_lt_of_le (PySem.Flt.log2_lt_of h0 h) hk
theorem log_small {n : Int} (h : n.natAbs < 2 ^ 64) : n.natAbs.log2 < 9000 := log_of h
theorem snoc_ind {α : Type} {p : List α → Prop} (h0 : p []) (h1 : ∀ l x, p l → p (l ++ [x])) : ∀ l, p l := by
  have : ∀ (n : Nat) (l : List α), l.length = n → p l := by
    intro n
    induction n with
    | zero => intro l h; rw [List.length_eq_zero_iff.mp h]; exact h0
    | succ n ih =>
      intro l h
      rcases snoc_cases l with rfl | ⟨a, x, rfl⟩
      · exact h0
      · exact h1 _ _ (ih a (by simpa using h))
  exact fun l => this _ l rfl
theorem begun_inv {b : Nat} {cs : List Int} (hc : ∀ x ∈ cs, x.natAbs < 2 ^ b) : ∀ pre : List Int, (∀ y ∈ pre, y ∈ cs) →
    let acc := pre.foldl (fun (acc : Int × List Int) x => (if x ≥ 10 ^ 18 then acc.1 * (x - 10 ^ 18 + 1) + (x - 10 ^ 18) else acc.1, acc.2 ++ [x])) (0, [])
    0 ≤ acc.1 ∧ acc.1 < 2 ^ (pre.length * b) ∧ acc.2.length = pre.length := by
  refine snoc_ind (fun _ => ⟨by decide, by simp, rfl⟩) fun pre x ih => ?_
  · intro h
    obtain ⟨h1, h2, h3⟩ := ih fun y hy => h y (List.mem_append_left _ hy)
    simp only [List.foldl_append, List.foldl_cons, List.foldl_nil, List.length_append, List.length_cons, List.length_nil]
    generalize List.foldl _ _ pre = acc at h1 h2 h3 ⊢
    have hx : x.natAbs < 2 ^ b := hc x (h x (by simp))
    have hp : (0 : Int) < 2 ^ b := Int.pow_pos (by decide)
    have e : (2 : Int) ^ ((pre.length + (0 + 1)) * b) = 2 ^ (pre.length * b) * 2 ^ b := by rw [← Int.pow_add]; congr 1; rw [Nat.zero_add, Nat.add_mul, Nat.one_mul]
    rw [e]
    refine ⟨?_, ?_, by omega⟩
    · split
      · rename_i g
        have : 0 ≤ x - 10 ^ 18 := by omega
        exact Int.add_nonneg (Int.mul_nonneg h1 (by omega)) this
      · exact h1
    · have hx' : x < 2 ^ b := by
        have : ((x.natAbs : Nat) : Int) < ((2 ^ b : Nat) : Int) := by exact_mod_cast hx
        rw [Int.natCast_pow] at this
        have e3 : ((2 : Nat) : Int) = 2 := rfl
        rw [e3] at this
        omega
      generalize (2 : Int) ^ (pre.length * b) = A at h2 ⊢
      generalize (2 : Int) ^ b = B at hp hx' ⊢
      split
      · rename_i g
        have hy : 0 ≤ x - 10 ^ 18 := by omega
        have hy2 : x - 10 ^ 18 + 1 ≤ B := by omega
        generalize x - 10 ^ 18 = y at hy hy2 ⊢
        have m1 : (acc.1 + 1) * (y + 1) ≤ A * B := Int.mul_le_mul (by omega) hy2 (by omega) (by omega)
        have m2 : (acc.1 + 1) * (y + 1) = acc.1 * (y + 1) + (y + 1) := by rw [Int.add_mul, Int.one_mul]
        omega
      · have m1 : A * 1 ≤ A * B := Int.mul_le_mul (Int.le_refl _) (by omega) (by decide) (by omega)
        rw [Int.mul_one] at m1
        omega
theorem begun_mul {p x : Int} {b n : Nat} (h0 : 0 ≤ p) (h1 : p < 2 ^ (n * b)) (hn : n ≤ 63) (hb : b ≤ 1100000) (hx : x ≥ 10 ^ 18) (hxb : x.natAbs < 2 ^ b) : CBig p (x - 10 ^ 18 + 1) := by
  refine CMulX.ok (mulx_ok (a := n * b) (b := b) ?_ ?_ ?_)
  · have e : ((p.natAbs : Nat) : Int) < ((2 ^ (n * b) : Nat) : Int) := by
      rw [Int.natCast_pow]
      have e3 : ((2 : Nat) : Int) = 2 := rfl
      rw [e3]
      omega
    exact_mod_cast e
  · omega
  · have : n * b ≤ 63 * 1100000 := Nat.mul_le_mul hn hb
    omega
end LD

namespace LD
open PySem PySem.Spec L2
def flatFrom (val : Nat → List Value) (n : Nat) : Nat → List Value
  | 0 => []
  | k + 1 => val (n - (k + 1)) ++ flatFrom val n k
theorem sz_ne {h : Heap} {a I : Addr} {o : Obj} (e : h.get? a = some o) (hI : h.objs.size ≤ I) : a ≠ I := fun z => by subst z; exact absurd (Heap.lt_size e) (Nat.not_lt.mpr hI)
section
variable {prog : Program} {w : World} {A : Around} {R : Result → Shared → Prop} {I l : Addr} {n : Nat} {P : Nat → Value → Prop} {St : Nat → Heap → Prop}
theorem codeAny_sum_loopL (W : Walks prog w A.in1 I [I, l] [I] n P St) (val : Nat → List Value) (h₀ : Heap) (hval : ∀ i v, P i v → ∃ a m, v = .ref a ∧ IsL h₀ a (val i).toArray m) (S : Addr) (hI : h₀.objs.size ≤ I) (hS0 : h₀.objs.size ≤ S) (hSI : S ≠ I) (hSl : S ≠ l) (hth : ∀ i h, St i h → ∃ o, h.get? I = some o) :
    ∀ (k i : Nat) (s : Shared) (T : Addr) (c m : Nat) (acc : List Value), n - i = k → i ≤ n → St i s.heap → s.heap.get? S = some { cls := .type "list", dict := none, data := .seq #[.ref T] c, slots := #[] } →
    IsL s.heap T acc.toArray m → T ≠ I → T ≠ S → (∀ b o, h₀.get? b = some o → s.heap.get? b = some o) → acc.length + (flatFrom val n k).length ≤ sizeLine →
    (∀ h' tk T' m', (∀ b o, b ≠ I → b ≠ S → s.heap.get? b = some o → h'.get? b = some o) → IsL h' T' (acc ++ flatFrom val n k).toArray m' → ((k = 0 ∧ T' = T) ∨ (k ≠ 0 ∧ h₀.objs.size ≤ T')) → R (.ok (.ret (.ref T'))) { s with heap := h', toks := tk }) →
    codeAny (model prog w) A (.builtin "sum.loop" ⟨[.ref I, .ref S, rawInt 2, rawInt 0], []⟩) R s := by
  intro k
  induction k with
  | zero =>
    intro i s T c m acc hk hi hst hS hT hTI hTS hold hz hR
    have hin : i = n := by omega
    subst hin
    refine codeAny_builtin F.entry_sum_loop ?_
    rw [Around.under_plainId F.plain_sum_loop _]
    show wpAny _ A.in1 (seqItems? (.ref S) >>= _) _ _ s
    refine wpAny_bind (wpAny_seqItems hS rfl ?_)
    show wpAny _ A.in1 (tryCatch (pyNext (.ref I)) _ >>= _) _ _ s
    refine wpAny_bind (wpAny_tryCatch (W.done s _ _ hst fun h' tk hk' => ?_))
    refine wpAny_pure (hR h' tk T m (fun b o hb _ e => hk' b o (by simpa using hb) e) ?_ (.inl ⟨rfl, rfl⟩))
    rw [flatFrom, List.append_nil]
    exact hk' T _ (by simpa using hTI) hT
  | succ k ih =>
    intro i s T c m acc hk hi hst hS hT hTI hTS hold hz hR
    have hlt : i < n := by omega
    refine codeAny_builtin F.entry_sum_loop ?_
    rw [Around.under_plainId F.plain_sum_loop _]
    show wpAny _ A.in1 (seqItems? (.ref S) >>= _) _ _ s
    refine wpAny_bind (wpAny_seqItems hS rfl ?_)
    show wpAny _ A.in1 (tryCatch (pyNext (.ref I)) _ >>= _) _ _ s
    refine wpAny_bind (wpAny_tryCatch (W.item i s _ _ hlt hst fun v h' tk hP hst' hk' => ?_))
    obtain ⟨a, m2, rfl, ha⟩ := hval i v hP
    have hS' := hk' S _ (by simpa using hSI) hS
    have aI : a ≠ I := sz_ne ha hI
    have aS : a ≠ S := sz_ne ha hS0
    have ha' : IsL h' a (val i).toArray m2 := hk' a _ (by simpa using aI) (hold a _ ha)
    have hT' : IsL h' T acc.toArray m := hk' T _ (by simpa using hTI) hT
    have ei : n - (k + 1) = i := by omega
    have hz2 : acc.length + ((val i).length + (flatFrom val n k).length) ≤ sizeLine := by
      rw [flatFrom, ei, List.length_append] at hz
      exact hz
    show wpAny _ A.in1 ((holding [Value.ref a] (binaryOp .Add (.ref T) (.ref a))).attempt >>= _) _ _ _
    refine wpAny_bind (wpAny_attempt (wpAny_holding (PySem.P.add_list hT' ha' ?_ (by rw [List.size_toArray, List.size_toArray]; omega))))
    have e1 : acc.toArray ++ (val i).toArray = (acc ++ val i).toArray := by simp
    rw [e1]
    have hkeep : ∀ b o, h'.get? b = some o → (h'.push { cls := .type "list", data := .seq (acc ++ val i).toArray }).get? b = some o := fun b o e => Heap.get?_push_of_some _ e
    have hS3 := hkeep _ _ hS'
    have hnew : IsL (h'.push { cls := .type "list", data := .seq (acc ++ val i).toArray }) h'.objs.size (acc ++ val i).toArray 0 := IsL.new _ _
    have nS : h'.objs.size ≠ S := Ne.symm (sz_ne hS' (Nat.le_refl _))
    obtain ⟨oI, hoI⟩ := hth (i + 1) h' hst'
    have nI : h'.objs.size ≠ I := Ne.symm (sz_ne hoI (Nat.le_refl _))
    have hsz : h₀.objs.size ≤ h'.objs.size := Nat.le_trans hI (Nat.le_of_lt (Heap.lt_size hoI))
    generalize h'.push { cls := .type "list", data := .seq (acc ++ val i).toArray } = h2 at hkeep hS3 hnew ⊢
    show wpAny _ A.in1 (updateSeq S (fun _ => #[.ref h'.objs.size]) >>= _) _ _ _
    refine wpAny_bind ?_
    refine wpAny_updateSeq hS3 rfl ?_
    have hS2 := Heap.get?_update_self (Obj.mapSeq fun _ => #[Value.ref h'.objs.size]) hS3 rfl
    refine wpAny_bind (wpAny_letGo ?_)
    refine wpAny_bind ?_
    have hup : ∀ b o, b ≠ S → h2.get? b = some o → ((h2.update S (Obj.mapSeq fun _ => #[Value.ref h'.objs.size])).update S (Obj.mapSeq fun _ => #[Value.ref h'.objs.size])).get? b = some o := fun b o hb e =>
      (Heap.get?_update_other _ _ (Ne.symm hb)).trans ((Heap.get?_update_other _ _ (Ne.symm hb)).trans e)
    refine wpAny_updateSeq hS2 rfl (wpAny_pure ⟨plainId_quiet F.plain_sum_loop _, ih (i + 1) _ h'.objs.size _ 0 (acc ++ val i) (by omega) hlt (W.frame _ _ _ hst' fun b hb o e => ?_) (Heap.get?_update_self _ hS2 rfl) (hup _ _ nS hnew) nI nS (fun b o e => ?_) (by rw [List.length_append]; omega) fun h'' tk'' T' m' hk'' hT'' hT3 => ?_⟩)
    · refine hup b o ?_ (hkeep _ _ e)
      rcases List.mem_cons.mp hb with rfl | hb
      · exact Ne.symm hSI
      · have : b = l := by simpa using hb
        rw [this]; exact Ne.symm hSl
    · have bS : b ≠ S := sz_ne e hS0
      have bI : b ≠ I := sz_ne e hI
      exact hup b o bS (hkeep _ _ (hk' b o (by simpa using bI) (hold b o e)))
    · refine hR h'' tk'' T' m' (fun b o hbI hbS e => hk'' b o hbI hbS (hup b o hbS (hkeep _ _ (hk' b o (by simpa using hbI) e)))) ?_ ?_
      · rw [flatFrom, ei, ← List.append_assoc]; exact hT''
      · rcases hT3 with ⟨rfl, rfl⟩ | ⟨_, h3⟩
        · exact .inr ⟨by omega, hsz⟩
        · exact .inr ⟨by omega, h3⟩
end
theorem sub_list_str : isSubtype (.type "list") (.type "str") = pure false := by rw [isSubtype_type]; kernel_rfl
theorem sub_list_bytes : isSubtype (.type "list") (.type "bytes") = pure false := by rw [isSubtype_type]; kernel_rfl
theorem sub_list_bytearray : isSubtype (.type "list") (.type "bytearray") = pure false := by rw [isSubtype_type]; kernel_rfl
theorem args_sum2 (a b : Value) : argsOk "sum" ⟨[a, b], []⟩ := by unfold argsOk; kernel_rfl
section
variable {prog : Program} {w : World} {A : Around} {E : Value → Shared → Prop} {s : Shared}
theorem sum_lists_raw {l b : Addr} {its : Array Value} {vss : List (List Value)} {acc : List Value} {m : Nat} {Q : Value → Shared → Prop} (hh : A.handled = none) (hl : s.heap.IsList l its) (hn : its.size = vss.length)
    (hv : ∀ (i : Nat) v, its[i]? = some v → ∃ a m, v = .ref a ∧ IsL s.heap a (vss.getD i []).toArray m) (hb : IsL s.heap b acc.toArray m) (hz : acc.length + vss.flatten.length ≤ sizeLine)
    (h : ∀ h' tk T m', (∀ b o, s.heap.get? b = some o → h'.get? b = some o) → IsL h' T (acc ++ vss.flatten).toArray m' → ((vss = [] ∧ T = b) ∨ (vss ≠ [] ∧ s.heap.objs.size ≤ T)) → Q (.ref T) { s with heap := h', toks := tk }) :
    wpAny (model prog w) A (call (.builtin "sum") [.ref l, .ref b]) Q E s := by
  refine call_function_tree F.kind_sum F.plain_sum F.entry_sum (args_sum2 _ _) ?_
  unfold Builtin.«sum»
  simp only [List.length_cons, List.length_nil]
  rw [if_neg (by decide)]
  refine wpAny_bind (wpAny_of_eq (show Builtin.Builtins.bindParams "sum" ["start"] 0 { pos := [.ref b] } = pure [some (.ref b)] from rfl) ?_)
  have hlt : l < s.heap.objs.size := by obtain ⟨_, e, _⟩ := hl; exact Heap.lt_size e
  have hbl := Heap.lt_size hb
  refine wpAny_bind (wpAny_pyIter_list hl ?_)
  have hits : ∀ b o, s.heap.get? b = some o → (s.heap.push { cls := .type "list_iterator", data := .fields #[.ref l, .int 0 0] }).get? b = some o := fun b o e => Heap.get?_push_of_some _ e
  have hI : (s.heap.push { cls := .type "list_iterator", data := .fields #[.ref l, .int 0 0] }).IsListIter s.heap.objs.size l 0 := ⟨_, Heap.get?_push_size _ rfl, rfl, rfl⟩
  have hL : (s.heap.push { cls := .type "list_iterator", data := .fields #[.ref l, .int 0 0] }).IsList l its := hl.push _
  have hsz : (s.heap.push { cls := .type "list_iterator", data := .fields #[.ref l, .int 0 0] }).objs.size = s.heap.objs.size + 1 := Heap.size_push _ _
  generalize hg : s.heap.push { cls := .type "list_iterator", data := .fields #[.ref l, .int 0 0] } = h1 at hits hI hL hsz ⊢
  refine wpAny_bind (wpAny_pure ?_)
  simp only [List.forIn_cons, List.forIn_nil]
  have hT : ({ s with heap := h1 } : Shared).TypeIs (.ref b) "list" := ⟨_, hits _ _ hb, rfl⟩
  refine wpAny_bind (wpAny_bind (wpAny_bind (wpAny_isInstance (T := "list") (b := false) hT sub_list_str ?_)))
  simp only [Bool.false_eq_true, if_false]
  refine wpAny_pure (wpAny_bind (wpAny_bind (wpAny_isInstance (T := "list") (b := false) hT sub_list_bytes ?_)))
  simp only [Bool.false_eq_true, if_false]
  refine wpAny_pure (wpAny_bind (wpAny_bind (wpAny_isInstance (T := "list") (b := false) hT sub_list_bytearray ?_)))
  simp only [Bool.false_eq_true, if_false]
  refine wpAny_pure (wpAny_pure ?_)
  refine wpAny_bind (wpAny_newObj_type ?_)
  have W := Walks.list (prog := prog) (w := w) (A := A.in1) hh s.heap.objs.size l (Nat.ne_of_lt hlt) its
  have hfl : ∀ k, k ≤ vss.length → flatFrom (fun i => vss.getD i []) its.size k = (vss.drop (vss.length - k)).flatten := by
    intro k
    induction k with
    | zero => intro _; rw [Nat.sub_zero, List.drop_length]; rfl
    | succ k ih =>
      intro hk
      have hlt : vss.length - (k + 1) < vss.length := by omega
      rw [flatFrom, ih (by omega), List.drop_eq_getElem_cons hlt, List.flatten_cons, hn]
      rw [show vss.length - (k + 1) + 1 = vss.length - k by omega, List.getD_eq_getElem?_getD, List.getElem?_eq_getElem hlt]
      rfl
  have hfl2 : flatFrom (fun i => vss.getD i []) its.size its.size = vss.flatten := by
    have := hfl vss.length (Nat.le_refl _)
    rw [Nat.sub_self, List.drop_zero] at this
    rw [hn] at this ⊢
    exact this
  have hS1 : s.heap.objs.size ≤ h1.objs.size := by rw [hsz]; exact Nat.le_succ _
  refine wpAny_pure ⟨plainId_quiet F.plain_sum_loop _, codeAny_sum_loopL W (fun i => vss.getD i []) s.heap (fun i v hP => hv i v hP) h1.objs.size (Nat.le_refl _) hS1 (fun z => by rw [hsz] at z; exact absurd z (Nat.succ_ne_self _)) (fun z => by rw [← z] at hlt; exact absurd hlt (Nat.not_lt.mpr hS1)) (fun i h hst => by obtain ⟨o, e, _⟩ := hst.1; exact ⟨o, e⟩)
    its.size 0 _ b 0 m acc rfl (Nat.zero_le _) (W.frame _ _ _ ⟨hI, hL⟩ fun b _ o e => Heap.get?_push_of_some _ e) (Heap.get?_push_size _ rfl) (Heap.get?_push_of_some _ (hits _ _ hb)) (Nat.ne_of_lt hbl) (fun z => by rw [z] at hbl; exact absurd hbl (Nat.not_lt.mpr hS1)) (fun b o e => Heap.get?_push_of_some _ (hits _ _ e)) (by rw [hfl2]; exact hz) fun h' tk T' m' hk' hT' hT3 => ?_⟩
  rw [hfl2] at hT'
  refine h h' tk T' m' (fun b o e => hk' b o (Nat.ne_of_lt (Heap.lt_size e)) (fun z => by have := Heap.lt_size e; rw [z] at this; exact absurd this (Nat.not_lt.mpr hS1)) (Heap.get?_push_of_some _ (hits _ _ e))) hT' ?_
  rcases hT3 with ⟨h0, rfl⟩ | ⟨h0, h3⟩
  · rw [hn] at h0
    exact .inl ⟨List.length_eq_zero_iff.mp h0, rfl⟩
  · refine .inr ⟨fun z => h0 ?_, h3⟩
    rw [hn, z]; rfl
end
/-- sum(lists, list) -/
def rSumL (K : PySem.W.Frag) : List V → Hp → VK → Prop := fun vs H Q => ∃ (l b : Addr) (as : List Addr) (xss : List (List V)) (ys : List V), vs = [.ref l, .ref b] ∧ SqL K H l (as.map V.ref) ∧ Paired (fun a xs => H a = some (.lst xs)) as xss ∧ H b = some (.lst ys) ∧
  ys.length + xss.flatten.length ≤ sizeLine ∧ (xss = [] → Q (.ref b) H) ∧ (xss ≠ [] → ∀ p, H p = none → Q (.ref p) (upd H p (.lst (ys ++ xss.flatten))))
section
variable {X : Cx}
theorem vals_refs : ∀ {as : List Addr} {us : List Value}, Vals (as.map V.ref) us → us = as.map Value.ref
  | [], _, r => by cases r; rfl
  | a :: as, _, r => by
    cases r with
    | cons h t => cases h; rw [vals_refs t]; rfl
theorem vals_flat : ∀ {xss : List (List V)} {uss : List (List Value)}, Paired Vals xss uss → Vals xss.flatten uss.flatten
  | _, _, .nil => .nil
  | _, _, .cons h t => by rw [List.flatten_cons, List.flatten_cons]; exact h.append (vals_flat t)
theorem len_flat : ∀ {xss : List (List V)} {uss : List (List Value)}, Paired Vals xss uss → xss.flatten.length = uss.flatten.length
  | _, _, .nil => rfl
  | _, _, .cons h t => by rw [List.flatten_cons, List.flatten_cons, List.length_append, List.length_append, len_flat t, h.length]
theorem lists_at {pins : List (Addr × Obj)} {σ : L2.St} {H : Hp} {s : Shared} (I : Inv X pins σ H s) : ∀ {as : List Addr} {xss : List (List V)}, Paired (fun a xs => H a = some (.lst xs)) as xss →
    ∃ uss : List (List Value), Paired Vals xss uss ∧ as.length = uss.length ∧ ∀ (i : Nat) a, as[i]? = some a → ∃ m, IsL s.heap a (uss.getD i []).toArray m
  | _, _, .nil => ⟨[], .nil, rfl, fun i a h => by simp at h⟩
  | _, _, .cons (a := a) h t => by
    obtain ⟨uss, h1, h2, h3⟩ := lists_at I t
    obtain ⟨z, its, n, r, hl, e⟩ := I.lstM h
    refine ⟨its :: uss, .cons r h1, by simp [h2], fun i b hb => ?_⟩
    cases i with
    | zero => simp at hb; subst hb; exact ⟨n, e⟩
    | succ i => simp at hb; exact h3 i b hb
theorem cr_sumL (hc : X.calm = true) : CallR X (.builtin "sum") (rSumL X.K) := by
  intro pins s σ H vs us Q I r h
  obtain ⟨l, b, as, xss, ys, rfl, hs, hp, hb, hz, q1, q2⟩ := h
  obtain ⟨its, rv, hl, _⟩ := I.list hs
  obtain ⟨zb, itb, nb, rb, hlb, eb⟩ := I.lstM hb
  obtain ⟨uss, u1, u2, u3⟩ := lists_at I hp
  have eu : us = [Value.ref l, Value.ref b] := by
    cases r with
    | cons h1 t => cases t with
      | cons h2 t => cases t; cases h1; cases h2; rfl
  subst eu
  have ei := vals_refs rv
  subst ei
  have hxl : xss.length = uss.length := by
    clear q1 q2 hz u2 u3 hp
    induction u1 with
    | nil => rfl
    | cons _ _ ih => simp [ih]
  have el := len_flat u1
  have eb2 := rb.length
  refine sum_lists_raw (I.ok.hd hc) hl.isList (vss := uss) (acc := itb) (m := nb) (by simpa using u2) (fun i v hv => ?_) eb (by omega) fun h' tk T m' hk hT h3 => ?_
  · simp only [List.getElem?_toArray, List.getElem?_map] at hv
    cases ha : as[i]? with
    | none => rw [ha] at hv; cases hv
    | some a =>
      rw [ha] at hv
      obtain ⟨m, hm⟩ := u3 i a ha
      exact ⟨a, m, (Option.some.inj hv).symm, hm⟩
  · rcases h3 with ⟨h0, rfl⟩ | ⟨h0, h4⟩
    · have hx : xss = [] := by
        subst h0
        exact List.length_eq_zero_iff.mp hxl
      exact ⟨.ref _, H, I.kept hk, rfl, q1 hx⟩
    · have hx : xss ≠ [] := fun z => h0 (by subst z; exact List.length_eq_zero_iff.mp hxl.symm)
      refine ⟨.ref T, _, I.laid (t' := tk) (o := .lst (ys ++ xss.flatten)) hk h4 ⟨by rw [List.length_append]; exact hz, itb ++ uss.flatten, m', rb.append (vals_flat u1), hT⟩, rfl, q2 hx T (I.hok.fresh h4)⟩
end
def vSumL : List D → (D → Prop) → Prop := fun ds Q => ∃ (xss : List (List D)) (ys : List D), ds = [.lst (xss.map D.lst), .lst ys] ∧ ys.length + xss.flatten.length ≤ sizeLine ∧ Q (.lst (ys ++ xss.flatten))
theorem rep_lists {K : PySem.W.Frag} {G : Hp} : ∀ {vs : List V} {xss : List (List D)}, RepL K G vs (xss.map D.lst) → ∃ (as : List Addr) (vss : List (List V)), vs = as.map V.ref ∧ Paired (fun a xs => G a = some (.lst xs)) as vss ∧ RepL K G vss.flatten xss.flatten ∧ vss.length = xss.length
  | _, [], .nil => ⟨[], [], rfl, .nil, .nil, rfl⟩
  | _, x :: xss, .cons h r => by
    obtain ⟨as, vss, rfl, h1, h2, h3⟩ := rep_lists r
    cases h with
    | lst ha hr => exact ⟨_ :: as, _ :: vss, rfl, .cons ha h1, by rw [List.flatten_cons, List.flatten_cons]; exact hr.append h2, by simp [h3]⟩
theorem v_sumL {K : PySem.W.Frag} {G H : Hp} {vs : List V} {ds : List D} {Q : D → Prop} {R : VK} (s : Same G H) (rs : RepL K G vs ds) (q : vSumL ds Q) (k : ∀ G' H' v d', Ext G H G' H' → Rep K G' v d' → Q d' → R v H') : rSumL K vs H R := by
  obtain ⟨xss, ys, rfl, hz, q⟩ := q
  cases rs with
  | cons rv rs => cases rs with
    | cons ru rs =>
      cases rs
      cases rv with
      | lst h1 r1 =>
        cases ru with
        | lst h2 r2 =>
          rename_i p zs p2 zs2
          obtain ⟨as, vss, rfl, hp, rf, hl⟩ := rep_lists r1
          have e1 := rf.length
          have e2 := r2.length
          refine ⟨p, p2, as, vss, zs2, rfl, SqL.of (s _ _ h1), Paired.mapP hp fun a xs e => s _ _ e, s _ _ h2, by omega, fun hx => ?_, fun hx p' hp' => ?_⟩
          · subst hx
            have hx2 : xss = [] := List.length_eq_zero_iff.mp hl.symm
            subst hx2
            rw [List.flatten_nil, List.append_nil] at q
            exact k G H _ _ (.refl s) (.lst h2 r2) q
          · have ex := Ext.fresh (o := .lst (zs2 ++ vss.flatten)) s hp'
            exact k _ _ _ _ ex (.lst upd_same ((r2.append rf).same ex.gg)) q
section
variable {X : Cx} {p pos : Pos} {e e2 : Expr} {t : TDL}
theorem pd_sumL (hc : X.calm = true) (hg : Gl X "sum") (hm : X.mg "sum" = none) (ha : PAD X [e, e2] t) (he : starEach [e, e2] X.env = (false, eval e X.env) :: starEach [e2] X.env := by rfl) (hpl : (backTo pos (starEach [e2] X.env)).any (·.1) = false := by rfl) : PD X (.Call (.Name "sum" p) [e, e2] [] pos) (dCall vSumL t) := by
  obtain ⟨te, h1, h2⟩ := ha.ex
  exact ⟨tCB (rSumL X.K) te, pe_callB (cr_sumL hc) hg hm (by decide +kernel) h1 (by decide) (by decide) he hpl, fun rl q k => h2 rl q fun G' H' vs ds ex rs z => v_sumL ex.gh rs z fun G2 H2 v d e2 rp w => k _ _ _ _ (ex.trans e2) rp w⟩
theorem vSumL_mk {xss : List (List D)} {ys : List D} {Q : D → Prop} (h : ys.length + xss.flatten.length ≤ sizeLine) (q : Q (.lst (ys ++ xss.flatten))) : vSumL [.lst (xss.map D.lst), .lst ys] Q := ⟨xss, ys, rfl, h, q⟩
end
end LD

namespace LD
open PySem PySem.Spec L2
/-! ### repr of a bool, of None -/
def rRepr : List V → Hp → VK → Prop := fun xs H Q => (∃ b, xs = [.bl b] ∧ Q (.str (if b then "True" else "False")) H) ∨ (xs = [.non] ∧ Q (.str "None") H)
theorem cr_repr {X : Cx} : CallR X (.builtin "repr") rRepr := by
  intro pins s σ H vs us Q I r h
  rcases h with ⟨b, rfl, q⟩ | ⟨rfl, q⟩
  · cases r with
    | cons h t =>
      cases t
      cases h
      exact PySem.P.repr_of_bool ⟨.str _, _, I.tok _, ⟨_, rfl⟩, q⟩
  · cases r with
    | cons h t =>
      cases t
      cases h
      exact PySem.P.repr_of_none ⟨.str _, _, I.tok _, ⟨_, rfl⟩, q⟩
def vRepr : List D → (D → Prop) → Prop
  | [.bl b], Q => Q (.str (if b then "True" else "False"))
  | [.non], Q => Q (.str "None")
  | _, _ => False
theorem v_repr {K : PySem.W.Frag} : VC K rRepr vRepr := by
  intro G H vs ds Q R s rs q k
  unfold vRepr at q
  split at q
  · obtain ⟨v, rfl, rv⟩ := pair1 rs
    exact .inl ⟨_, by rw [rv.bl], k G H _ _ (.refl s) (.str _) q⟩
  · obtain ⟨v, rfl, rv⟩ := pair1 rs
    exact .inr ⟨by rw [rv.non], k G H _ _ (.refl s) (.str _) q⟩
  · exact q.elim
section
variable {X : Cx} {p pos : Pos} {e : Expr} {t : TDL}
theorem pd_repr (hg : Gl X "repr") (hm : X.mg "repr" = none) (ha : PAB X [e] t) (he : starEach [e] X.env = (false, eval e X.env) :: starEach [] X.env := by rfl) : PD X (.Call (.Name "repr" p) [e] [] pos) (dCall vRepr t) := pd_callB cr_repr v_repr hg hm (by decide +kernel) ha (he := he)
end
theorem vRepr_bl {b : Bool} {Q : D → Prop} : vRepr [.bl b] Q = Q (.str (if b then "True" else "False")) := rfl
theorem vRepr_non {Q : D → Prop} : vRepr [.non] Q = Q (.str "None") := rfl
theorem isTy_bs : isTy "bool" "str" = false := by decide
theorem isTy_sb : isTy "str" "bool" = false := by decide
theorem isTy_si : isTy "str" "int" = false := by decide
theorem isTy_ni : isTy "NoneType" "int" = false := by decide
theorem isTy_nt : isTy "NoneType" "tuple" = false := by decide
theorem isTy_nl : isTy "NoneType" "list" = false := by decide
theorem isTy_ns : isTy "NoneType" "str" = false := by decide
theorem isTy_st : isTy "str" "tuple" = false := by decide
theorem isTy_sl : isTy "str" "list" = false := by decide
/-! ### the kinds of a thing's parts -/
mutual
def D.sz : D → Nat
  | .lst xs => 1 + D.szL xs
  | .tup xs => 1 + D.szL xs
  | _ => 1
def D.szL : List D → Nat
  | [] => 0
  | d :: ds => D.sz d + D.szL ds
end
mutual
def D.kOk : D → Bool
  | .lst xs => D.kOkL xs
  | .tup xs => D.kOkL xs
  | .non => true
  | .bl _ => true
  | .int _ => true
  | .str _ => true
  | _ => false
def D.kOkL : List D → Bool
  | [] => true
  | d :: ds => D.kOk d && D.kOkL ds
end
theorem szL_append : ∀ a b : List D, D.szL (a ++ b) = D.szL a + D.szL b
  | [], b => by simp [D.szL]
  | x :: a, b => by rw [List.cons_append, D.szL, szL_append a b, D.szL]; omega
theorem kOkL_append : ∀ a b : List D, D.kOkL (a ++ b) = (D.kOkL a && D.kOkL b)
  | [], b => by simp [D.kOkL]
  | x :: a, b => by rw [List.cons_append, D.kOkL, kOkL_append a b, D.kOkL, Bool.and_assoc]
theorem sz_pos : ∀ d : D, 1 ≤ D.sz d := fun d => by cases d <;> simp [D.sz]
theorem len_szL : ∀ l : List D, l.length ≤ D.szL l
  | [] => Nat.le_refl _
  | x :: l => by have := sz_pos x; have := len_szL l; rw [D.szL, List.length_cons]; omega
def kName : D → Str
  | .bl b => if b then "True" else "False"
  | .non => "None"
  | .int _ => "number"
  | .str _ => "string"
  | .lst _ => "list"
  | .tup _ => "tuple"
  | _ => "other"
def kInner : D → List D
  | .lst xs => xs
  | .tup xs => xs
  | _ => []
/-- the things in the sequence in which they are seen -/
def kindsF : Nat → List D → List D
  | 0, _ => []
  | n + 1, l => match l.getLast? with
    | none => []
    | some d => d :: kindsF n (l.dropLast ++ kInner d)
def nameD (d : D) : D := .str (kName d)
mutual
theorem eqv_self : ∀ d : D, D.kOk d = true → deq d d = true
  | .non, _ => rfl
  | .bl b, _ => by cases b <;> rfl
  | .int i, _ => by simp [deq_int]
  | .str x, _ => by simp [deq, D.py, PyData.eqv]
  | .lst xs, h => eqv_selfL xs h
  | .tup xs, h => eqv_selfL xs h
  | .scr _, h => by simp [D.kOk] at h
  | .dct _, h => by simp [D.kOk] at h
  | .dctT _, h => by simp [D.kOk] at h
  | .drw _, h => by simp [D.kOk] at h
  | .ins _ _, h => by simp [D.kOk] at h
theorem eqv_selfL : ∀ ds : List D, D.kOkL ds = true → PyData.eqvAll (D.pyL ds) (D.pyL ds) = true
  | [], _ => rfl
  | d :: ds, h => by
    rw [D.kOkL, Bool.and_eq_true] at h
    have h1 := eqv_self d h.1
    have h2 := eqv_selfL ds h.2
    show (PyData.eqv d.py d.py && PyData.eqvAll (D.pyL ds) (D.pyL ds)) = true
    rw [h2, Bool.and_true]; exact h1
end
theorem kName_ok (d : D) : (nameD d).py.canLay0 = true := by
  have h : ∀ x ∈ ([Str.ofString "True", "False", "None", "number", "string", "list", "tuple", "other"] : List Str), (D.str x).py.canLay0 = true := by decide +kernel
  unfold nameD
  apply h
  cases d with
  | bl b => cases b <;> simp [kName]
  | _ => simp [kName]
theorem okD_names (r : List D) : okD (.lst (r.map nameD)) = true := okD_lst (m := 0) kName_ok (fun _ => Nat.le_refl _) (by decide) r
theorem deq_names (r : List D) : deq (.lst (r.map nameD)) (.lst (r.map nameD)) = true := eqv_self _ (by
  show D.kOkL _ = true
  induction r with
  | nil => rfl
  | cons a r ih => exact ih)
theorem kinds_step (n : Nat) (a : List D) (d : D) : kindsF (n + 1) (a ++ [d]) = d :: kindsF n (a ++ kInner d) := by
  rw [kindsF, List.getLast?_concat, List.dropLast_concat]
theorem kinds_nil (n : Nat) : kindsF n [] = [] := by cases n <;> rfl
theorem lay_append : ∀ a b : List D, PyData.canLayAll0 (D.pyL (a ++ b)) = (PyData.canLayAll0 (D.pyL a) && PyData.canLayAll0 (D.pyL b))
  | [], b => rfl
  | x :: a, b => by
    show (PyData.canLay0 x.py && PyData.canLayAll0 (D.pyL (a ++ b))) = ((PyData.canLay0 x.py && PyData.canLayAll0 (D.pyL a)) && _)
    rw [lay_append a b, Bool.and_assoc]
theorem depth_append : ∀ a b : List D, PyData.depthAll (D.pyL (a ++ b)) = max (PyData.depthAll (D.pyL a)) (PyData.depthAll (D.pyL b))
  | [], b => (Nat.max_eq_right (Nat.zero_le _)).symm
  | x :: a, b => by
    show max (PyData.depth x.py) (PyData.depthAll (D.pyL (a ++ b))) = max (max (PyData.depth x.py) (PyData.depthAll (D.pyL a))) _
    rw [depth_append a b]; omega
def lOk (l : List D) : Prop := D.kOkL l = true ∧ PyData.canLayAll0 (D.pyL l) = true ∧ PyData.depthAll (D.pyL l) ≤ 60
theorem lOk_app {a b : List D} : lOk (a ++ b) ↔ lOk a ∧ lOk b := by
  unfold lOk
  rw [kOkL_append, lay_append, depth_append, Bool.and_eq_true, Bool.and_eq_true]
  constructor
  · rintro ⟨⟨a1, b1⟩, ⟨a2, b2⟩, h⟩
    exact ⟨⟨a1, a2, by omega⟩, b1, b2, by omega⟩
  · rintro ⟨⟨a1, a2, a3⟩, b1, b2, b3⟩
    exact ⟨⟨a1, b1⟩, ⟨a2, b2⟩, by omega⟩
theorem lOk_inner {d : D} (h : lOk [d]) : lOk (kInner d) := by
  obtain ⟨h1, h2, h3⟩ := h
  have a1 : (D.kOk d && true) = true := h1
  have a2 : (PyData.canLay0 d.py && true) = true := h2
  have a3 : max (PyData.depth d.py) 0 ≤ 60 := h3
  rw [Bool.and_true] at a1 a2
  cases d with
  | lst xs =>
    have e : PyData.depth (D.lst xs).py = PyData.depthAll (D.pyL xs) + 1 := by show PyData.depth (.list _) = _; rw [PyData.depth]
    rw [e] at a3
    exact ⟨a1, a2, show PyData.depthAll (D.pyL xs) ≤ 60 by omega⟩
  | tup xs =>
    have e : PyData.depth (D.tup xs).py = PyData.depthAll (D.pyL xs) + 1 := by show PyData.depth (.tuple _) = _; rw [PyData.depth]
    rw [e] at a3
    exact ⟨a1, a2, show PyData.depthAll (D.pyL xs) ≤ 60 by omega⟩
  | _ => exact ⟨rfl, rfl, Nat.zero_le _⟩
theorem lOk_okD {l : List D} (h : lOk l) : okD (.lst l) = true := by
  show (PyData.canLay0 (.list (D.pyL l)) && decide (PyData.depth (.list (D.pyL l)) ≤ 64)) = true
  rw [PyData.canLay0, PyData.depth, h.2.1]
  have := h.2.2
  rw [decide_eq_true (by omega)]; rfl
theorem lOk_okD1 {d : D} (h : lOk [d]) : okD d = true := by
  obtain ⟨_, h2, h3⟩ := h
  have a2 : (PyData.canLay0 d.py && true) = true := h2
  have a3 : max (PyData.depth d.py) 0 ≤ 60 := h3
  rw [Bool.and_true] at a2
  show (PyData.canLay0 d.py && decide (PyData.depth d.py ≤ 64)) = true
  rw [a2, decide_eq_true (by omega)]; rfl
theorem szL_one (d : D) : D.szL [d] = 1 + D.szL (kInner d) := by
  cases d <;> simp [D.szL, D.sz, kInner]
theorem deq_nil_snoc (a : List D) (x : D) : deq (.lst (a ++ [x])) (.lst []) = false := by cases a <;> rfl
end LD

namespace LD
open PySem PySem.Spec L2
/-! ### tables of data -/
def valD {κ : Type} [DecidableEq κ] (kvs : List (κ × D)) (k : κ) : Option D := (kvs.find? fun kv => decide (kv.1 = k)).map (·.2)
def putD {κ : Type} [DecidableEq κ] (kvs : List (κ × D)) (k : κ) (v : D) : List (κ × D) :=
  if (kvs.any fun kv => decide (kv.1 = k)) = true then kvs.map (fun kv => if kv.1 = k then (kv.1, v) else kv) else kvs ++ [(k, v)]
theorem RepK.len {K : PySem.W.Frag} {G : Hp} : ∀ {kvs : List (Key × V)} {ds : List (Key × D)}, RepK K G kvs ds → kvs.length = ds.length
  | _, _, .nil => rfl
  | _, _, .cons _ r => by simp [RepK.len r]
theorem RepK.any {K : PySem.W.Frag} {G : Hp} (k : Key) : ∀ {kvs : List (Key × V)} {ds : List (Key × D)}, RepK K G kvs ds → (kvs.any fun kv => decide (kv.1 = k)) = ds.any fun kv => decide (kv.1 = k)
  | _, _, .nil => rfl
  | _, _, .cons _ r => by simp only [List.any_cons]; rw [RepK.any k r]
theorem RepK.val {K : PySem.W.Frag} {G : Hp} (k : Key) : ∀ {kvs : List (Key × V)} {ds : List (Key × D)}, RepK K G kvs ds → (valV kvs k = none ∧ valD ds k = none) ∨ ∃ v d, valV kvs k = some v ∧ valD ds k = some d ∧ Rep K G v d
  | _, _, .nil => .inl ⟨rfl, rfl⟩
  | _, _, .cons (k := k') (v := v) (d := d) (vs := vs) (ds := ds) h r => by
    by_cases e : k' = k
    · exact .inr ⟨v, d, valV_pos e, by simp [valD, List.find?_cons, e], h⟩
    · rcases RepK.val k r with ⟨a, b⟩ | ⟨v2, d2, a, b, c⟩
      · exact .inl ⟨by rw [valV_neg e]; exact a, by unfold valD at b ⊢; rw [List.find?_cons, decide_eq_false e]; exact b⟩
      · exact .inr ⟨v2, d2, by rw [valV_neg e]; exact a, by unfold valD at b ⊢; rw [List.find?_cons, decide_eq_false e]; exact b, c⟩
theorem RepK.append {K : PySem.W.Frag} {G : Hp} : ∀ {a b : List (Key × V)} {c d : List (Key × D)}, RepK K G a c → RepK K G b d → RepK K G (a ++ b) (c ++ d)
  | _, _, _, _, .nil, s => s
  | _, _, _, _, .cons h r, s => .cons h (RepK.append r s)
theorem RepK.repl {K : PySem.W.Frag} {G : Hp} (k : Key) {v : V} {d : D} (rv : Rep K G v d) : ∀ {kvs : List (Key × V)} {ds : List (Key × D)}, RepK K G kvs ds →
    RepK K G (kvs.map fun kv => if kv.1 = k then (kv.1, v) else kv) (ds.map fun kv => if kv.1 = k then (kv.1, d) else kv)
  | _, _, .nil => .nil
  | _, _, .cons (k := k') h r => by
    simp only [List.map_cons]
    by_cases e : k' = k
    · simp only [if_pos e]; exact .cons rv (RepK.repl k rv r)
    · simp only [if_neg e]; exact .cons h (RepK.repl k rv r)
theorem RepK.put {K : PySem.W.Frag} {G : Hp} {kvs : List (Key × V)} {ds : List (Key × D)} (r : RepK K G kvs ds) (k : Key) {v : V} {d : D} (rv : Rep K G v d) : RepK K G (putK kvs k v) (putD ds k d) := by
  unfold putK putD
  rw [r.any k]
  split
  · exact r.repl k rv
  · exact r.append (.cons rv .nil)
/-- ints and texts as keys -/
def asKey : D → (Key → Prop) → Prop
  | .int i, Q => Q (.inl i)
  | .str x, Q => Q (.inr x)
  | _, _ => False
theorem asKey_rep {K : PySem.W.Frag} {G H : Hp} {v : V} {d : D} {Q : Key → Prop} (r : RepB K G H v d) (q : asKey d Q) : ∃ k, v = kV k ∧ Q k := by
  unfold asKey at q
  split at q
  · exact ⟨.inl _, r.int, q⟩
  · exact ⟨.inr _, r.str, q⟩
  · exact q.elim
theorem asKey_int {i : Int} {Q : Key → Prop} : asKey (.int i) Q = Q (.inl i) := rfl
def asDct : D → (List (Key × D) → Prop) → Prop
  | .dct ds, Q => Q ds
  | _, _ => False
theorem asDct_rep {K : PySem.W.Frag} {G H : Hp} (s : Same G H) {v : V} {d : D} {Q : List (Key × D) → Prop} (r : RepB K G H v d) (q : asDct d Q) : ∃ p kvs ds, v = .ref p ∧ H p = some (.dK kvs) ∧ RepK K G kvs ds ∧ Q ds := by
  unfold asDct at q
  split at q
  · obtain ⟨p, xs, e, h, r⟩ := r.dct s; exact ⟨p, xs, _, e, h, r, q⟩
  · exact q.elim
theorem asDct_dct {ds : List (Key × D)} {Q : List (Key × D) → Prop} : asDct (.dct ds) Q = Q ds := rfl

/-! ### dict comprehensions -/
@[irreducible] def dcI (ds : List D) (g : TGD) (tt : TDB) (tk tv : TD) (sdw : List Sl) (Q : List (Key × D) → Prop) : Prop := ∃ I : Nat → List (Key × D) → Prop, I 0 [] ∧
  (∀ i d acc, ds[i]? = some d → I i acc → g d sdw fun sd2 => tt sd2 fun b => ifB b (tk sd2 fun k => tv sd2 fun y => asKey k fun kk => acc.length < sizeLine ∧ I (i + 1) (putD acc kk y)) (I (i + 1) acc)) ∧ ∀ acc, I ds.length acc → Q acc
def dDc (ti : TDL) (g : TGD) (tt : TDB) (tk tv : TD) (vs : List Nat) : TD := fun sd Q => ti sd fun ds => dcI ds g tt tk tv (wipeD sd vs) fun acc => Q (.dct acc)
theorem dc_prop {K : PySem.W.Frag} {ti : TDL} {is : List Nat} {g : TGD} {tt : TDB} {tk tv : TD} {vs : List Nat} (hsub : ∀ i ∈ is, i ∈ vs) {G0 H0 G H : Hp} {σ : L2.St} {sd : List Sl} {Q : D → Prop} {R : VK} (rl : Rel K G0 H0 G H σ sd) (q : dDc ti g tt tk tv vs sd Q)
    (k : ∀ G' H' p d, Ext G H G' H' → OwnAt K G' H' p d → H p = none → G' p = none → Q d → R (.ref p) H') : tDc (TIof K ti) (TGof K is g) (TTof K tt) (TEof K tk) (TEof K tv) vs σ H R := by
  refine ⟨G0, H0, G, sd, _, rl, q, fun G1 H1 J ds ex jk z D hD => ?_⟩
  unfold dcI at z
  obtain ⟨I, h0, hstep, hend⟩ := z
  have gD : G1 D = none := ex.gh.free hD
  refine ⟨fun i m H' => ∃ G' accV acc, Ext G1 H1 G' H' ∧ G' D = none ∧ H' D = some (.dK accV) ∧ RepK K G' accV acc ∧ I i acc ∧ i + m = ds.length,
    ⟨ds.length, G1, [], [], (Ext.refl ex.gh).bump hD gD, gD, upd_same, .nil, h0, by omega⟩, fun i m H' ⟨G', accV, acc, e1, g1, a1, ra, hI, hm⟩ => ?_⟩
  by_cases hlt : i < ds.length
  · refine .inr ⟨jk.go G' H' i e1.gg e1.gh hlt, fun H2 => ∃ G2 accV acc, Ext G1 H1 G2 H2 ∧ G2 D = none ∧ H2 D = some (.dK accV) ∧ RepK K G2 accV acc ∧ I (i + 1) acc,
      fun H2 ⟨G2, av, ac, e2, g2, a2, r2, i2⟩ => ⟨m - 1, by omega, G2, av, ac, e2, g2, a2, r2, i2, by omega⟩, fun x H2 hy => ?_⟩
    have hd : ds[i]? = some ds[i] := List.getElem?_eq_getElem hlt
    obtain ⟨G2, e2, rx⟩ := jk.yld G' H' i x H2 _ e1.gg e1.gh hd hy
    refine ⟨G0, H0, G2, wipeD sd vs, ds[i], _, (((rl.to ex).to e1).to e2).wipe vs, rx, hstep i _ acc hd hI, fun σ3 sd3 ag r3 q3 => ⟨wipe_agree ag hsub, ?_⟩⟩
    refine ⟨G0, H0, G2, sd3, _, r3, q3, fun G3 H3 b e3 q4 => ?_⟩
    have a2 := e2.hh _ _ a1
    have g2 := e2.none a1 g1
    have a3 := e3.hh _ _ a2
    have g3 := e3.none a2 g2
    cases b with
    | true =>
      rw [ifB_t] at q4
      refine iteT ?_
      refine ⟨G0, H0, G3, sd3, _, r3.to e3, q4, fun G4 H4 y dy e4 ry q5 => ?_⟩
      refine ⟨G0, H0, G4, sd3, _, (r3.to e3).to e4, q5, fun G5 H5 u du e5 ru q6 => ?_⟩
      obtain ⟨kk, rfl, hl, hI'⟩ := asKey_rep (.inl (ry.same e5.gg) : RepB K G5 H5 y dy) q6
      have a5 := e5.hh _ _ (e4.hh _ _ a3)
      have g5 := e5.none (e4.hh _ _ a3) (e4.none a3 g3)
      have E := e2.gg.trans (e3.gg.trans (e4.gg.trans e5.gg))
      exact ⟨accV, kk, rfl, a5, by rw [ra.len]; exact hl, G5, putK accV kk u, putD acc kk du, ((e1.trans e2).trans (e3.trans (e4.trans e5))).bump hD g5, g5, upd_same, (ra.same E).put kk ru, hI'⟩
    | false =>
      rw [ifB_f] at q4
      refine iteF ?_
      exact ⟨G3, accV, acc, (e1.trans e2).trans e3, g3, a3, ra.same (e2.gg.trans e3.gg), q4⟩
  · have hm0 : i = ds.length := by omega
    subst hm0
    exact .inl ⟨jk.stop G' H' _ e1.gg e1.gh (Nat.le_refl _), k G' H' D (.dct acc) (ex.trans e1) ⟨accV, a1, ra⟩ (ex.hh.free hD) g1 (hend acc hI)⟩
section
variable {X : Cx} {kx vx tg iter : Expr} {ifs : List Expr} {scope : Scope} {own : List (Str × Nat)} {pos : Pos} {ti : TDL} {is : List Nat} {g : TGD} {tt : TDB} {tk tv : TD}
theorem pf_dc (hc : X.calm = true) (hN : X.N.Nodup) (hi : PID X tg iter ti) (ok : BlkOk X.N X.env.scope scope own)
    (hg : ∀ (s : Shared) (H : Hp) (C : Addr) (cl : List (Str × Addr)) (fp : List Addr), PGD (X.blk s H scope (compEnvC scope cl C X.env) fp) tg is g) (hsub : ∀ i ∈ is, i ∈ own.map (·.2))
    (ht : ∀ (s : Shared) (H : Hp) (C : Addr) (cl : List (Str × Addr)) (fp : List Addr), PTsD (X.blk s H scope (compEnvC scope cl C X.env) fp) ifs tt)
    (hk : ∀ (s : Shared) (H : Hp) (C : Addr) (cl : List (Str × Addr)) (fp : List Addr), PD (X.blk s H scope (compEnvC scope cl C X.env) fp) kx tk)
    (he : ∀ (s : Shared) (H : Hp) (C : Addr) (cl : List (Str × Addr)) (fp : List Addr), PD (X.blk s H scope (compEnvC scope cl C X.env) fp) vx tv) (hs : ∀ x, foldedSetIterable iter X.env x = pure x := by intro _; rfl) :
    PF X (.DictComp kx vx [⟨tg, iter, ifs, 0⟩] scope pos) (dDc ti g tt tk tv (own.map (·.2))) :=
  ⟨_, pe_dc (wi := TIof X.K ti) (g := TGof X.K is g) (tt := TTof X.K tt) (tk := TEof X.K tk) (tv := TEof X.K tv) hc hN hi.pi ok (fun s H C cl fp => (hg s H C cl fp).pg) (fun s H C cl fp => (ht s H C cl fp).pts) (fun s H C cl fp => (hk s H C cl fp).pe) (fun s H C cl fp => (he s H C cl fp).pe) hs,
    fun rl q k => dc_prop hsub rl q k⟩
end
/-- a dict comprehension as a fold -/
theorem dcI_fold {α : Type} {xs : List α} {enc : α → D} {g : TGD} {tk tv : TD} {sdw : List Sl} {Q : List (Key × D) → Prop} (f : α → Key) (v : α → D) (hl : xs.length ≤ sizeLine)
    (hstep : ∀ x, x ∈ xs → ∀ K : Key → D → Prop, K (f x) (v x) → g (enc x) sdw fun sd2 => tk sd2 fun k => tv sd2 fun y => asKey k fun kk => K kk y)
    (hend : Q (xs.foldl (fun acc x => putD acc (f x) (v x)) [])) : dcI (xs.map enc) g (fun _ Q => Q true) tk tv sdw Q := by
  unfold dcI
  have plen : ∀ (acc : List (Key × D)) (k : Key) (y : D), (putD acc k y).length ≤ acc.length + 1 := fun acc k y => by
    unfold putD; split <;> simp
  have flen : ∀ (l : List α) (acc : List (Key × D)), (l.foldl (fun acc x => putD acc (f x) (v x)) acc).length ≤ acc.length + l.length := by
    intro l
    induction l with
    | nil => intro acc; simp
    | cons a l ih =>
      intro acc
      have h1 := ih (putD acc (f a) (v a))
      have h2 := plen acc (f a) (v a)
      simp only [List.foldl_cons, List.length_cons]
      omega
  refine ⟨fun i acc => acc = (xs.take i).foldl (fun acc x => putD acc (f x) (v x)) [], rfl, fun i d acc hd ha => ?_, fun acc ha => ?_⟩
  · obtain ⟨x, hx, rfl⟩ := map_at hd
    have hi := (List.getElem?_eq_some_iff.mp hx).1
    refine hstep x (List.mem_of_getElem? hx) (fun k y => acc.length < sizeLine ∧ putD acc k y = _) ⟨?_, ?_⟩
    · have := flen (xs.take i) []
      rw [List.length_take] at this
      subst ha
      simp at this ⊢
      omega
    · rw [take_succ_at hx, List.foldl_append, ha]; rfl
  · subst ha
    rw [List.length_map, List.take_length]
    exact hend

/-! ### d[k], d.get(k, x), k in d -/
section
variable {X : Cx} {a b c : Expr} {ta tb tc : TD} {pos apos : Pos}
def dDget (ta tb : TD) : TD := fun sd Q => ta sd fun d => tb sd fun e => asDct d fun ds => asKey e fun k => optQ (valD ds k) Q
theorem pd_dget (hu : X.A.units + 1 < cLine) (ha : PB X a ta) (hb : PB X b tb) (hs : NoSl b := by intro _ _; rfl) : PD X (.Subscript a b pos) (dDget ta tb) := by
  obtain ⟨t1, h1, h2⟩ := ha.ex
  obtain ⟨t2, h3, h4⟩ := hb.ex
  refine ⟨_, pe_dget hu h1 h3 hs, fun rl q k => h2 rl q fun G1 H1 x d e1 r1 q1 => h4 (rl.to e1) q1 fun G2 H2 y e e2 r2 q2 => ?_⟩
  obtain ⟨p, kvs, ds, rfl, hp, rk, q3⟩ := asDct_rep e2.gh (r1.to e2) q2
  obtain ⟨kk, rfl, q4⟩ := asKey_rep r2 q3
  obtain ⟨d', hd', q5⟩ := optQ_ex q4
  rcases rk.val kk with ⟨_, z⟩ | ⟨v, d2, v1, v2, rv⟩
  · rw [z] at hd'; cases hd'
  · rw [v2] at hd'; cases hd'
    exact ⟨p, v, rfl, by rw [← v1]; exact DGet.k hp, k _ _ _ _ (e1.trans e2) rv q5⟩
def dDget2 (ta tb tc : TD) : TD := fun sd Q => ta sd fun d => asDct d fun ds => tb sd fun e => tc sd fun f => asKey e fun k => Q ((valD ds k).getD f)
theorem pd_m_get2 (hu : X.A.units + 1 < cLine) (ha : PB X a ta) (hb : PD X b tb) (hc : PD X c tc) (m : M2 X a "get" apos b c pos := by exact ⟨rfl, rfl, rfl, rfl⟩) : PD X (.Call (.Attribute a "get" apos) [b, c] [] pos) (dDget2 ta tb tc) := by
  obtain ⟨t1, h1, h2⟩ := ha.ex
  obtain ⟨t2, h3, h4⟩ := hb.ex
  obtain ⟨t3, h5, h6⟩ := hc.ex
  refine ⟨_, pe_dget2 hu h1 h3 h5 m, fun rl q k => h2 rl q fun G1 H1 x d e1 r1 q1 => ?_⟩
  obtain ⟨p, kvs, ds, rfl, hp, rk, q3⟩ := asDct_rep e1.gh r1 q1
  refine ⟨p, rfl, .inl ⟨kvs, .of hp⟩, h4 (rl.to e1) q3 fun G2 H2 y e e2 r2 q2 => h6 ((rl.to e1).to e2) q2 fun G3 H3 z f e3 r3 q4 => ?_⟩
  obtain ⟨kk, rfl, q5⟩ := asKey_rep (.inl (r2.same e3.gg) : RepB X.K G3 H3 y e) q4
  have ex := e2.trans e3
  have hp3 := ex.hh _ _ hp
  refine ⟨_, DGet.k (k := kk) hp3, ?_⟩
  rcases rk.val kk with ⟨v1, v2⟩ | ⟨v, d2, v1, v2, rv⟩
  · rw [v1]
    rw [v2] at q5
    exact k _ _ _ _ (e1.trans ex) r3 q5
  · rw [v1]
    rw [v2] at q5
    exact k _ _ _ _ (e1.trans ex) (rv.same ex.gg) q5
def dInD (ta tb : TD) : TDB := fun sd Q => ta sd fun e => tb sd fun d => asDct d fun ds => asKey e fun k => Q (valD ds k).isSome
def dNotInD (ta tb : TD) : TDB := fun sd Q => ta sd fun e => tb sd fun d => asDct d fun ds => asKey e fun k => Q (!(valD ds k).isSome)
theorem ptd_inD (hu : X.A.units + 1 < cLine) (ha : PB X a ta) (hb : PB X b tb) (hm : behindInMarks .In b = false := by rfl) : PTD X (.Compare a [.In] [b] pos) (dInD ta tb) := by
  obtain ⟨t1, h1, h2⟩ := ha.ex
  obtain ⟨t2, h3, h4⟩ := hb.ex
  refine ⟨_, pt_cmp (pc_din hu h1 h3) hm, fun rl q k => h2 rl q fun G1 H1 x e e1 r1 q1 => h4 (rl.to e1) q1 fun G2 H2 y d e2 r2 q2 => ?_⟩
  obtain ⟨p, kvs, ds, rfl, hp, rk, q3⟩ := asDct_rep e2.gh r2 q2
  obtain ⟨kk, rfl, q4⟩ := asKey_rep (r1.to e2) q3
  refine ⟨p, _, rfl, DGet.k hp, _, rfl, k _ _ _ (e1.trans e2) ?_⟩
  rcases rk.val kk with ⟨v1, v2⟩ | ⟨v, d2, v1, v2, rv⟩ <;> (rw [v1]; rw [v2] at q4; exact q4)
theorem ptd_notInD (hu : X.A.units + 1 < cLine) (ha : PB X a ta) (hb : PB X b tb) (hm : behindInMarks .NotIn b = false := by rfl) : PTD X (.Compare a [.NotIn] [b] pos) (dNotInD ta tb) := by
  obtain ⟨t1, h1, h2⟩ := ha.ex
  obtain ⟨t2, h3, h4⟩ := hb.ex
  refine ⟨_, pt_cmp (pc_dnotin hu h1 h3) hm, fun rl q k => h2 rl q fun G1 H1 x e e1 r1 q1 => h4 (rl.to e1) q1 fun G2 H2 y d e2 r2 q2 => ?_⟩
  obtain ⟨p, kvs, ds, rfl, hp, rk, q3⟩ := asDct_rep e2.gh r2 q2
  obtain ⟨kk, rfl, q4⟩ := asKey_rep (r1.to e2) q3
  refine ⟨p, _, rfl, DGet.k hp, _, rfl, k _ _ _ (e1.trans e2) ?_⟩
  rcases rk.val kk with ⟨v1, v2⟩ | ⟨v, d2, v1, v2, rv⟩ <;> (rw [v1]; rw [v2] at q4; exact q4)

/-! ### list(range(a, b)) -/
def dListRg (ta tb : TD) : TD := fun sd Q => ta sd fun d => tb sd fun e => asI d fun i => asI e fun j => RgOk i j ∧ Q (.lst (rgD i (j - i).toNat))
theorem rep_rgV {K : PySem.W.Frag} {G : Hp} (i j : Int) : RepL K G (rgV i j) (rgD i (j - i).toNat) := by
  unfold rgV rgD
  generalize List.range (j - i).toNat = l
  induction l with
  | nil => exact .nil
  | cons a l ih => exact .cons (.int _) ih
theorem asI_rep {K : PySem.W.Frag} {G H : Hp} {v : V} {d : D} {Q : Int → Prop} (r : RepB K G H v d) (q : asI d Q) : ∃ i, v = .int i ∧ Q i := by
  unfold asI at q
  split at q
  · exact ⟨_, r.int, q⟩
  · exact q.elim
theorem pf_listRg {p p2 pos2 : Pos} (hc : X.calm = true) (hg : Gl X "list") (hm : X.mg "list" = none) (hg2 : Gl X "range") (hm2 : X.mg "range" = none) (ha : PB X a ta) (hb : PB X b tb)
    (na : starEach [a, b] X.env = (false, eval a X.env) :: starEach [b] X.env := by rfl) (nb : starEach [b] X.env = (false, eval b X.env) :: starEach [] X.env := by rfl) (hp : (backTo pos2 (starEach [b] X.env)).any (·.1) = false := by rfl)
    (ne : starEach [Expr.Call (.Name "range" p2) [a, b] [] pos2] X.env = (false, eval (Expr.Call (.Name "range" p2) [a, b] [] pos2) X.env) :: starEach [] X.env := by rfl) :
    PF X (.Call (.Name "list" p) [.Call (.Name "range" p2) [a, b] [] pos2] [] pos) (dListRg ta tb) := by
  obtain ⟨t1, h1, h2⟩ := ha.ex
  obtain ⟨t2, h3, h4⟩ := hb.ex
  refine ⟨_, pe_listRg hc hg hm (prg_2 hg2 hm2 h1 h3 na nb hp) ne, fun rl q k => h2 rl q fun G1 H1 x d e1 r1 q1 => h4 (rl.to e1) q1 fun G2 H2 y e e2 r2 q2 => ?_⟩
  obtain ⟨i, rfl, q3⟩ := asI_rep (r1.to e2) q2
  obtain ⟨j, rfl, hr, q4⟩ := asI_rep r2 q3
  have ex := e1.trans e2
  exact ⟨i, j, rfl, rfl, hr, fun p hp => k _ _ _ (.lst _) (ex.trans (Ext.loose ex.gh hp)) ⟨_, upd_same, rep_rgV i j⟩ (ex.hh.free hp) (ex.gh.free hp) q4⟩

/-! ### xs.index(x) -/
def vIdx : D → D → (D → Prop) → Prop
  | .lst ds, d, Q => (okD (.lst ds) = true ∧ okD d = true) ∧ ∃ (j : Nat) (z : D), ds[j]? = some z ∧ deq z d = true ∧ (∀ (m : Nat) (z' : D), m < j → ds[m]? = some z' → deq z' d = false) ∧ Q (.int (j : Nat))
  | _, _, _ => False
def asLst : D → (List D → Prop) → Prop
  | .lst ds, Q => Q ds
  | _, _ => False
theorem asLst_lst {ds : List D} {Q : List D → Prop} : asLst (.lst ds) Q = Q ds := rfl
def dIdx (ta tb : TD) : TD := fun sd Q => ta sd fun d => asLst d fun ds => tb sd fun e => vIdx (.lst ds) e Q
theorem vIdx_mk {ds : List D} {d : D} {Q : D → Prop} : vIdx (.lst ds) d Q = ((okD (.lst ds) = true ∧ okD d = true) ∧ ∃ (j : Nat) (z : D), ds[j]? = some z ∧ deq z d = true ∧ (∀ (m : Nat) (z' : D), m < j → ds[m]? = some z' → deq z' d = false) ∧ Q (.int (j : Nat))) := rfl
theorem pd_m_index1 (hu : X.A.units + 65 < cLine) (ha : PD X a ta) (hb : PD X b tb) (hbase : attributeBase a "index" X.env (eval a X.env) = eval a X.env := by rfl) (h2 : starEach [b] X.env = (false, eval b X.env) :: starEach [] X.env := by rfl)
    (hfew : ((((backTo pos (starEach [b] X.env)).all fun x => !x.1) && (backToKw pos (keywordEach [] X.env)).all fun x => x.1.isSome) && decide (([b].length + ([] : List Keyword).length + if ([] : List Keyword).isEmpty = true then 0 else 1) < 30)) = true := by rfl)
    (hline : (apos.endLine == pos.line) = true := by rfl) : PD X (.Call (.Attribute a "index" apos) [b] [] pos) (dIdx ta tb) := by
  obtain ⟨t1, a1, a2⟩ := ha.ex
  obtain ⟨t2, b1, b2⟩ := hb.ex
  refine ⟨_, pe_bm PySem.F.plainAttrs_list PySem.F.slot_list_index PySem.F.type_list_index (mt_indexD hu) a1 (pa_cons b1 pa_nil h2) (hbase := hbase) (hfew := hfew) (hline := hline) (hs := h2), fun rl q k => a2 rl q fun G1 H1 x d e1 r1 q1 => ?_⟩
  unfold asLst at q1
  split at q1
  · rename_i ds
    cases r1 with
    | lst h rs =>
      have hH := e1.gh _ _ h
      refine ⟨.inl ⟨rfl, _, SqL.of hH⟩, b2 (rl.to e1) q1 fun G2 H2 y e e2 r2 q2 => ?_⟩
      obtain ⟨⟨o1, o2⟩, j, z, hj, hz, hno, q3⟩ := q2
      have hl := (Rep.lst (ds := ds) (e2.gg _ _ h) (rs.same e2.gg)).same e2.gh
      refine ⟨_, y, e.py, D.pyL ds, j, z.py, rfl, rfl, hl.dp (SeqAt.canLay_of_shaped o1), (r2.same e2.gh).dp (SeqAt.canLay_of_shaped o2), o1, o2, by rw [D.pyL_map, List.getElem?_map, hj]; rfl, hz, fun m z' hm hz' => ?_, k _ _ _ _ (e1.trans e2) (.int _) q3⟩
      rw [D.pyL_map, List.getElem?_map] at hz'
      cases hd : ds[m]? with
      | none => rw [hd] at hz'; cases hz'
      | some d' =>
        rw [hd] at hz'
        cases hz'
        exact hno m d' hm hd
  · exact q1.elim
end

/-! ### sum(d.values()) -/
def tSumVals (td : TE) : TE := fun σ H Q => td σ H fun x H1 => ∃ (a : Addr) (kvs : List (Key × V)) (is : List Int), x = V.ref a ∧ H1 a = some (.dK kvs) ∧ kvs.map (·.2) = is.map V.int ∧ Q (.int is.sum) H1
theorem preSum_list (is : List Int) : ∀ n, n ≤ is.length → preSum (fun i => is.getD i 0) n = (is.take n).sum
  | 0, _ => by simp [preSum]
  | n + 1, h => by
    rw [preSum, preSum_list is n (by omega), List.take_succ, List.sum_append, List.getD_eq_getElem?_getD, List.getElem?_eq_getElem (by omega)]
    simp
section
variable {X : Cx} {o : Expr} {p pos apos mpos : Pos} {td : TE}
theorem pe_sumVals (hc : X.calm = true) (hg : Gl X "sum") (hm : X.mg "sum" = none) (hd : PE X o td) (hbase : attributeBase o "values" X.env (eval o X.env) = eval o X.env := by rfl) (hline : (apos.endLine == mpos.line) = true := by rfl)
    (hse : starEach [Expr.Call (.Attribute o "values" apos) [] [] mpos] X.env = [(false, eval (Expr.Call (.Attribute o "values" apos) [] [] mpos) X.env)] := by rfl) : PE X (.Call (.Name "sum" p) [.Call (.Attribute o "values" apos) [] [] mpos] [] pos) (tSumVals td) := by
  refine ⟨fun pins s σ H Q I h => ?_⟩
  refine wpAny_Call_Name_kw (ld_blt I hg hm (u := .builtin "sum") (by decide +kernel) ?_ (by decide) (by decide))
  rw [hse]
  refine PySem.callWith_builtin1 (wpAny_Call_method0_late hbase hline (thn (hd.run pins s σ H _ I h) fun v s1 ⟨x, H1, I1, r1, a, kvs, is, ex, ha, hv, q⟩ => ?_))
  subst ex
  have ev : v = Value.ref a := r1
  subst ev
  obtain ⟨_, hsys, vs, rel, dof⟩ := dk_of I1.hok ha
  obtain ⟨ep, dat⟩ := dof.dictAt
  have dof' := dat
  obtain ⟨ob, es, ho, ex, hdat, hko, hpr, hnd⟩ := dof'
  refine ⟨"dict", "dict.values", PySem.F.plainAttrs_dict, PySem.F.slot_dict_values, PySem.F.type_dict_values, ⟨ob, ho, ex.1⟩, fun b e => by cases e; exact ⟨ob, ho, ex.2.1⟩, PySem.Calls.callWith_builtin rfl (PySem.evalArgs_none ?_)⟩
  refine call_meetsIn PySem.F.slot_dict_values ⟨ob, ho, ex.1⟩ PySem.F.entry_dict_values (PySem.F.args_dict_values_1 _) (PySem.meets_dict_values (mixKind X.prog X.w) a hsys) ⟨⟨vs, dof⟩, ?_⟩
  have k1 : ∀ b u, s1.heap.get? b = some u → (s1.heap.push { cls := .type "dict_values", data := .fields #[.ref a] }).get? b = some u := fun b u e => Heap.get?_push_of_some _ e
  have dat1 := dat.keep k1
  have hlv : vs.length = is.length := by
    have e1 := congrArg List.length hv
    rw [List.length_map, List.length_map] at e1
    rw [← e1]; exact (KV.length rel).symm
  have hval : ∀ (i : Nat) (v : Value), (∃ k, vs[i]? = some (k, v)) → ∃ t, v = Value.int (is.getD i 0) t := fun i v hk => by
    obtain ⟨k, hk⟩ := hk
    obtain ⟨x, h1, h2⟩ := KV.at' rel hk
    have e1 : (kvs.map (·.2))[i]? = some x := by rw [List.getElem?_map, h1]; rfl
    rw [hv, List.getElem?_map] at e1
    cases hj : is[i]? with
    | none => rw [hj] at e1; cases e1
    | some j =>
      rw [hj] at e1
      cases e1
      obtain ⟨t, e3⟩ := h2
      exact ⟨t, by rw [e3, List.getD_eq_getElem?_getD, hj]; rfl⟩
  have hlt : a < s1.heap.objs.size := Heap.lt_size ho
  have hsz : (s1.heap.push { cls := .type "dict_values", data := .fields #[.ref a] }).objs.size = s1.heap.objs.size + 1 := Heap.size_push _ _
  refine call_sum_walkG (wpAny_pyIter_values (v := s1.heap.objs.size) (d := a) ⟨_, Heap.get?_push_size _ rfl, rfl, rfl⟩ dat1 ?_)
  refine ⟨_, _, _, _, _, _, _, rfl, Walks.dictValues (knd := mixKind X.prog X.w) (A := X.A.in1) (I.ok.hd hc) (s1.heap.push { cls := .type "dict_values", data := .fields #[.ref a] }).objs.size a (by rw [hsz]; exact Nat.ne_of_lt (Nat.lt_succ_of_lt hlt)) vs ep, ⟨⟨_, Heap.get?_push_size _ rfl, rfl, rfl⟩, dat1.keep fun b u e => Heap.get?_push_of_some _ e⟩, fun b hb => ?_, hval, fun h' tk t' hk => ?_⟩
  · show b < ((s1.heap.push _).push _).objs.size
    rw [Heap.size_push, Heap.size_push]
    rw [hsz] at hb
    rcases List.mem_cons.mp hb with e | hb
    · rw [e]; exact Nat.lt_succ_self _
    · rw [List.mem_singleton.mp hb]; exact Nat.lt_succ_of_lt (Nat.lt_succ_of_lt hlt)
  · refine ⟨.int is.sum, H1, I1.kept (t' := tk) fun b u e => hk b u (fun hmem => ?_) (Heap.get?_push_of_some _ (k1 b u e)), ⟨t', ?_⟩, q⟩
    · have e1 := List.mem_singleton.mp hmem
      have e2 := Heap.lt_size e
      rw [hsz] at e1
      rw [e1] at e2
      exact absurd e2 (Nat.not_lt.mpr (Nat.le_succ _))
    · rw [preSum_list is vs.length (by omega), hlv, List.take_length]
theorem repK_ints {K : PySem.W.Frag} {G : Hp} : ∀ {kvs : List (Key × V)} {ds : List (Key × D)} {is : List Int}, RepK K G kvs ds → ds.map (·.2) = is.map D.int → kvs.map (·.2) = is.map V.int
  | _, _, [], .nil, _ => rfl
  | _, _, _ :: _, .nil, h => by simp at h
  | _, _, [], .cons _ _, h => by simp at h
  | _, _, i :: is, .cons hr r, h => by
    simp only [List.map_cons, List.cons.injEq] at h
    obtain ⟨h1, h2⟩ := h
    subst h1
    cases hr
    simp only [List.map_cons]
    rw [repK_ints r h2]
def dSumVals (ta : TD) : TD := fun sd Q => ta sd fun d => asDct d fun ds => ∃ is : List Int, ds.map (·.2) = is.map D.int ∧ Q (.int is.sum)
theorem pd_sumVals {ta : TD} (hc : X.calm = true) (hg : Gl X "sum") (hm : X.mg "sum" = none) (ha : PB X o ta) (hbase : attributeBase o "values" X.env (eval o X.env) = eval o X.env := by rfl) (hline : (apos.endLine == mpos.line) = true := by rfl)
    (hse : starEach [Expr.Call (.Attribute o "values" apos) [] [] mpos] X.env = [(false, eval (Expr.Call (.Attribute o "values" apos) [] [] mpos) X.env)] := by rfl) : PD X (.Call (.Name "sum" p) [.Call (.Attribute o "values" apos) [] [] mpos] [] pos) (dSumVals ta) := by
  obtain ⟨t1, h1, h2⟩ := ha.ex
  refine ⟨_, pe_sumVals hc hg hm h1 hbase hline hse, fun rl q k => h2 rl q fun G1 H1 x d e1 r1 q1 => ?_⟩
  obtain ⟨p, kvs, ds, rfl, hp, rk, is, hi, q2⟩ := asDct_rep e1.gh r1 q1
  exact ⟨p, kvs, is, rfl, hp, repK_ints rk hi, k _ _ _ _ e1 (.int _) q2⟩
end
def dDictK : TD := fun _ Q => Q (.dct [])
theorem pf_dictK {X : Cx} {pos : Pos} : PF X (.Dict [] [] pos) dDictK :=
  ⟨_, pe_dnewK, fun {G0 H0 G H σ sd Q R} rl q k p hp => k G _ p (.dct []) (Ext.loose rl.same hp) ⟨[], upd_same, .nil⟩ hp (rl.same.free hp) q⟩
end LD

namespace LD
open PySem PySem.Spec L2
theorem days_fold (r : List Int) : ∀ n : Nat, (List.range n).foldl (fun acc _ => acc ++ [say (acc.getLastD [])]) [r] = daysL r n
  | 0 => rfl
  | n + 1 => by
    rw [List.range_succ, List.foldl_append, days_fold r n]
    show daysL r n ++ [say ((daysL r n).getLastD [])] = daysL r (n + 1)
    have e : daysL r n = ((List.range n).map fun k => sayN k r) ++ [sayN n r] := by
      unfold daysL
      rw [List.range_succ, List.map_append]; rfl
    have e2 : (daysL r n).getLastD [] = sayN n r := by rw [e]; simp
    rw [e2]
    unfold daysL
    rw [List.range_succ (n := n + 1), List.map_append]; rfl

theorem barFrom_find : ∀ (m : Nat) (r : List Int) (p : Int) (k : Nat), r.length = 2 * m → barFrom p (k + 3) r = (List.range m).findSome? fun i => if r[1 + i * 2]? = (if i = 0 then some p else r[i * 2 - 1]?) then some (k + 3 + i * 2) else none
  | 0, [], p, k, _ => rfl
  | 0, _ :: _, p, k, h => by simp at h
  | m + 1, [], p, k, h => by simp at h
  | m + 1, [_], p, k, h => by simp at h; omega
  | m + 1, c :: a :: r, p, k, h => by
    rw [barFrom, List.range_succ_eq_map, List.findSome?_cons, List.findSome?_map]
    by_cases e : a = p
    · subst e; simp
    · rw [if_neg e]
      have h1 : (if (c :: a :: r)[1 + 0 * 2]? = (if 0 = 0 then some p else (c :: a :: r)[0 * 2 - 1]?) then some (k + 3 + 0 * 2) else none) = none := by simp [e]
      rw [h1, show k + 3 + 2 = k + 2 + 3 by omega, barFrom_find m r a (k + 2) (by simp at h; omega)]
      congr 1
      funext i
      show _ = if (c :: a :: r)[1 + (i + 1) * 2]? = (if i + 1 = 0 then some p else (c :: a :: r)[(i + 1) * 2 - 1]?) then some (k + 3 + (i + 1) * 2) else none
      have e1 : (c :: a :: r)[1 + (i + 1) * 2]? = r[1 + i * 2]? := by
        rw [show 1 + (i + 1) * 2 = (1 + i * 2) + 1 + 1 by omega, List.getElem?_cons_succ, List.getElem?_cons_succ]
      have e2 : (if i + 1 = 0 then some p else (c :: a :: r)[(i + 1) * 2 - 1]?) = (if i = 0 then some a else r[i * 2 - 1]?) := by
        rw [if_neg (by omega)]
        cases i with
        | zero => rfl
        | succ j =>
          rw [if_neg (by omega), show (j + 1 + 1) * 2 - 1 = ((j + 1) * 2 - 1) + 1 + 1 by omega, List.getElem?_cons_succ, List.getElem?_cons_succ]
      rw [e1, e2, show k + 2 + 3 + i * 2 = k + 3 + (i + 1) * 2 by omega]
theorem bar_find (r : List Int) (h : ¬ r.length % 2 = 1) : (match barL r with | some k => D.int (k : Nat) | none => .non) = match (List.range (((r.length : Int) - 3 + 1) / 2).toNat).findSome? (fun i => if r[3 + i * 2]? = r[1 + i * 2]? then some (D.int ((3 : Int) + (i : Nat) * 2)) else none) with | some d => d | none => .non := by
  unfold barL
  rw [if_neg h]
  match r, h with
  | [], _ => rfl
  | [_], h => simp at h
  | c :: a :: r, h =>
    simp only [List.length_cons] at h
    have e := barFrom_find (r.length / 2) r a 0 (by omega)
    show (match barFrom a 3 r with | some k => D.int (k : Nat) | none => .non) = _
    rw [show (3 : Nat) = 0 + 3 from rfl, e]
    have e2 : ((((c :: a :: r).length : Int) - 3 + 1) / 2).toNat = r.length / 2 := by simp only [List.length_cons]; omega
    rw [e2]
    have e3 : ∀ i, (if (c :: a :: r)[3 + i * 2]? = (c :: a :: r)[1 + i * 2]? then some (D.int ((3 : Int) + (i : Nat) * 2)) else none) = (if r[1 + i * 2]? = (if i = 0 then some a else r[i * 2 - 1]?) then some (0 + 3 + i * 2) else none).map fun k : Nat => D.int (k : Nat) := by
      intro i
      have e1 : (c :: a :: r)[3 + i * 2]? = r[1 + i * 2]? := by
        rw [show 3 + i * 2 = (1 + i * 2) + 1 + 1 by omega, List.getElem?_cons_succ, List.getElem?_cons_succ]
      have e2 : (c :: a :: r)[1 + i * 2]? = (if i = 0 then some a else r[i * 2 - 1]?) := by
        cases i with
        | zero => rfl
        | succ j => rw [if_neg (by omega), show 1 + (j + 1) * 2 = ((j + 1) * 2 - 1) + 1 + 1 by omega, List.getElem?_cons_succ, List.getElem?_cons_succ]
      rw [e1, e2]
      generalize (if i = 0 then some a else r[i * 2 - 1]?) = o
      by_cases hh : r[1 + i * 2]? = o
      · rw [if_pos hh, if_pos hh, Option.map_some, show ((0 + 3 + i * 2 : Nat) : Int) = (3 : Int) + (i : Nat) * 2 by omega]
      · rw [if_neg hh, if_neg hh]; rfl
    simp only [e3]
    have key : ∀ (g : Nat → Option Nat) (l : List Nat), l.findSome? (fun i => (g i).map fun k : Nat => D.int (k : Nat)) = (l.findSome? g).map fun k : Nat => D.int (k : Nat) := by
      intro g l
      induction l with
      | nil => rfl
      | cons x l ih =>
        rw [List.findSome?_cons, List.findSome?_cons]
        cases g x with
        | none => exact ih
        | some y => rfl
    rw [key (fun i => if r[1 + i * 2]? = (if i = 0 then some a else r[i * 2 - 1]?) then some (0 + 3 + i * 2) else none)]
    generalize (List.range (r.length / 2)).findSome? _ = o
    cases o <;> rfl

theorem range_pre {n i : Nat} {pre post : List Nat} (hx : List.range n = pre ++ i :: post) : pre.length = i := by
  have h : (List.range n)[pre.length]? = some i := by rw [hx]; simp
  have hl : pre.length < n := by
    have := congrArg List.length hx
    simp at this
    omega
  rw [List.getElem?_range hl] at h
  exact Option.some.inj h
theorem range_split {n : Nat} {pre post : List Nat} {i : Nat} (hx : List.range n = pre ++ i :: post) : pre = List.range i ∧ i < n := by
  have h := range_pre hx
  have hl : pre.length < n := by
    have := congrArg List.length hx
    simp at this
    omega
  refine ⟨?_, by omega⟩
  have := congrArg (List.take pre.length) hx
  rw [List.take_left] at this
  rw [← this, List.take_range, h]
  congr 1
  omega
theorem fold_shift (f : Nat → List Int) : ∀ (l : List Nat) (a : List Int), l.foldl (fun acc i => acc ++ f i) a = a ++ l.flatMap f
  | [], a => by simp
  | x :: l, a => by rw [List.foldl_cons, fold_shift f l, List.flatMap_cons, List.append_assoc]
theorem fold_mono (f : Nat → List Int) (l : List Nat) (a : List Int) : a.length ≤ (l.foldl (fun acc i => acc ++ f i) a).length := by
  rw [fold_shift]; simp
theorem unsay_fold_full : ∀ (r : List Int) (n : Nat), r.length = 2 * n → (List.range n).foldl (fun acc i => acc ++ List.replicate (r.getD (i * 2) 0).toNat (r.getD (i * 2 + 1) 0)) [] = unsay r := by
  intro r n h
  rw [fold_shift, List.nil_append]
  induction n generalizing r with
  | zero => cases r with
    | nil => rfl
    | cons a b => simp at h
  | succ n ih =>
    match r, h with
    | [], h => simp at h
    | [_], h => simp at h; omega
    | c :: a :: r, h =>
      rw [List.range_succ_eq_map, List.flatMap_cons, List.flatMap_map, unsay]
      rw [← ih r (by simp at h; omega)]
      have e : ∀ i : Nat, List.replicate ((c :: a :: r).getD (i.succ * 2) 0).toNat ((c :: a :: r).getD (i.succ * 2 + 1) 0) = List.replicate (r.getD (i * 2) 0).toNat (r.getD (i * 2 + 1) 0) := fun i => by
        rw [show i.succ * 2 = i * 2 + 1 + 1 by omega]; rfl
      simp only [e]
      rfl

end LD

namespace LD
open PySem PySem.Spec L2
theorem sayN_len (r : List Int) : ∀ k : Nat, (sayN k r).length ≤ 2 ^ k * r.length
  | 0 => by simp [sayN]
  | k + 1 => by
    have h := sayN_len r k
    have h2 := say_len (sayN k r)
    show (say (sayN k r)).length ≤ _
    rw [Nat.pow_succ, Nat.mul_right_comm]
    omega
theorem runs3 : ∀ (ps : List (Int × Int)) (p c : Int), Good (some p) ps → c ≤ 2 → ∀ q ∈ runsFrom c p (flat ps), q.1 ≤ 3
  | [], p, c, _, hc, q, hq => by
    have : q = (c, p) := by simpa [flat, runsFrom] using hq
    rw [this]; show c ≤ 3; omega
  | (c1, a1) :: ps, p, c, hg, hc, q, hq => by
    obtain ⟨g1, g2, g3⟩ := hg
    rw [flat_cons] at hq
    have hne : ¬ p = a1 := fun z => g2 (by rw [z])
    simp only [runsFrom] at hq
    split at hq
    · rename_i e
      split at hq
      · rename_i e2
        exact absurd (e.trans e2) hne
      · rcases List.mem_cons.mp hq with rfl | hq
        · show c + 1 ≤ 3; omega
        · exact runs3 ps a1 1 g3 (by decide) q hq
    · rcases List.mem_cons.mp hq with rfl | hq
      · show c ≤ 3; omega
      · split at hq
        · rename_i e2
          subst e2
          exact runs3 ps c1 (1 + 1) g3 (by decide) q hq
        · rcases List.mem_cons.mp hq with rfl | hq
          · show (1 : Int) ≤ 3; decide
          · exact runs3 ps a1 1 g3 (by decide) q hq
theorem runs_flat3 {ps : List (Int × Int)} {p : Option Int} (hg : Good p ps) : ∀ q ∈ runsL (flat ps), q.1 ≤ 3 := by
  match ps, hg with
  | [], _ => intro q hq; simp [flat, runsL] at hq
  | (c1, a1) :: ps, hg =>
    obtain ⟨g1, g2, g3⟩ := hg
    intro q hq
    rw [flat_cons, runs_cons] at hq
    simp only [runsFrom] at hq
    split at hq
    · rename_i e
      subst e
      exact runs3 ps c1 (1 + 1) g3 (by decide) q hq
    · rcases List.mem_cons.mp hq with rfl | hq
      · show (1 : Int) ≤ 3; decide
      · exact runs3 ps a1 1 g3 (by decide) q hq
theorem runs_say3 (r : List Int) : ∀ q ∈ runsL (say r), q.1 ≤ 3 := runs_flat3 (runs_good r)
theorem run_val : ∀ (r : List Int) (c a : Int), ∀ q ∈ runsFrom c a r, q.2 = a ∨ q.2 ∈ r
  | [], c, a, q, hq => by
    have : q = (c, a) := by simpa [runsFrom] using hq
    rw [this]; exact .inl rfl
  | x :: r, c, a, q, hq => by
    simp only [runsFrom] at hq
    split at hq
    · rename_i e
      rcases run_val r _ _ q hq with h | h
      · exact .inl (h.trans e.symm)
      · exact .inr (List.mem_cons_of_mem _ h)
    · rcases List.mem_cons.mp hq with rfl | hq
      · exact .inl rfl
      · rcases run_val r _ _ q hq with h | h
        · rw [h]; exact .inr List.mem_cons_self
        · exact .inr (List.mem_cons_of_mem _ h)
theorem runs_val (r : List Int) : ∀ q ∈ runsL r, q.2 ∈ r := by
  cases r with
  | nil => intro q hq; simp [runsL] at hq
  | cons x r =>
    intro q hq
    rw [runs_cons] at hq
    rcases run_val r _ _ q hq with h | h
    · rw [h]; exact List.mem_cons_self
    · exact List.mem_cons_of_mem _ h
theorem run_cnt : ∀ (r : List Int) (c a : Int), 1 ≤ c → ∀ q ∈ runsFrom c a r, 1 ≤ q.1 ∧ q.1 ≤ c + r.length
  | [], c, a, hc, q, hq => by
    have : q = (c, a) := by simpa [runsFrom] using hq
    rw [this]; exact ⟨hc, by show c ≤ c + 0; omega⟩
  | x :: r, c, a, hc, q, hq => by
    simp only [runsFrom] at hq
    rw [List.length_cons]
    split at hq
    · have := run_cnt r _ _ (by omega) q hq
      exact ⟨this.1, by omega⟩
    · rcases List.mem_cons.mp hq with rfl | hq
      · exact ⟨hc, by show c ≤ _; omega⟩
      · have := run_cnt r _ _ (by omega) q hq
        exact ⟨this.1, by omega⟩
theorem runs_cnt (r : List Int) : ∀ q ∈ runsL r, 1 ≤ q.1 ∧ q.1 ≤ r.length := by
  cases r with
  | nil => intro q hq; simp [runsL] at hq
  | cons x r =>
    intro q hq
    rw [runs_cons] at hq
    have := run_cnt r 1 x (by decide) q hq
    rw [List.length_cons]
    exact ⟨this.1, by omega⟩
theorem mem_say {r : List Int} {x : Int} (h : x ∈ say r) : (∃ q ∈ runsL r, x = q.1) ∨ x ∈ r := by
  unfold say at h
  obtain ⟨q, hq, hx⟩ := List.mem_flatMap.mp h
  rcases List.mem_cons.mp hx with rfl | hx
  · exact .inl ⟨q, hq, rfl⟩
  · have : x = q.2 := by simpa using hx
    rw [this]; exact .inr (runs_val r q hq)
/-- numbers to 4 and no run of more than 4 stay so -/
theorem small_sayN {r : List Int} (h : ∀ x ∈ r, 1 ≤ x ∧ x ≤ 4) (hr : r.length ≤ 4) : ∀ k, (∀ x ∈ sayN k r, 1 ≤ x ∧ x ≤ 4) ∧ ∀ q ∈ runsL (sayN k r), q.1 ≤ 4
  | 0 => ⟨h, fun q hq => by have := runs_cnt r q hq; omega⟩
  | k + 1 => by
    obtain ⟨i1, i2⟩ := small_sayN h hr k
    refine ⟨fun x hx => ?_, fun q hq => ?_⟩
    · rcases mem_say hx with ⟨q, hq, rfl⟩ | hx
      · exact ⟨(runs_cnt _ q hq).1, i2 q hq⟩
      · exact i1 x hx
    · have := runs_say3 _ q hq
      omega
theorem say_ne {r : List Int} (h : r ≠ []) : say r ≠ [] := by
  cases r with
  | nil => exact absurd rfl h
  | cons x r =>
    intro z
    have := congrArg List.length z
    rw [say_len_eq, runs_cons] at this
    have hne : ∀ (r : List Int) (c a : Int), (runsFrom c a r).length ≠ 0 := by
      intro r
      induction r with
      | nil => intro c a; simp [runsFrom]
      | cons y r ih =>
        intro c a
        simp only [runsFrom]
        split
        · exact ih _ _
        · simp
    have h2 := hne r 1 x
    have h3 : 2 * (runsFrom 1 x r).length = 0 := this
    omega
theorem sayN_ne {r : List Int} (h : r ≠ []) : ∀ k, sayN k r ≠ []
  | 0 => h
  | k + 1 => say_ne (sayN_ne h k)
/-- what a law's drawn row may be -/
structure RowOf (most : Int) (r : List Int) : Prop where
  ne : r ≠ []
  len : (r.length : Int) ≤ max most 4
  mem : ∀ x ∈ r, x ∈ ([1, 2, 3, 4, 5, 9, 12, 99] : List Int)
theorem mem8 {x : Int} (h : 1 ≤ x) (h2 : x ≤ 5) : x ∈ ([1, 2, 3, 4, 5, 9, 12, 99] : List Int) := by
  have : x = 1 ∨ x = 2 ∨ x = 3 ∨ x = 4 ∨ x = 5 := by omega
  rcases this with rfl | rfl | rfl | rfl | rfl <;> decide
theorem RowOf.isRow {most : Int} {r : List Int} (h : RowOf most r) (hm : most ≤ 60) : isRowB r = true := by
  unfold isRowB
  rw [Bool.and_eq_true, List.all_eq_true]
  refine ⟨decide_eq_true ?_, fun x hx => ?_⟩
  · have := h.len
    omega
  · have := h.mem x hx
    have : x = 1 ∨ x = 2 ∨ x = 3 ∨ x = 4 ∨ x = 5 ∨ x = 9 ∨ x = 12 ∨ x = 99 := by simpa using this
    rcases this with rfl | rfl | rfl | rfl | rfl | rfl | rfl | rfl <;> decide
theorem ints_of {P : Int → Prop} : ∀ acc : List D, (∀ y ∈ acc, ∃ i, y = D.int i ∧ P i) → ∃ ns : List Int, acc = ns.map D.int ∧ ∀ i ∈ ns, P i
  | [], _ => ⟨[], rfl, by simp⟩
  | y :: acc, h => by
    obtain ⟨i, rfl, hi⟩ := h y List.mem_cons_self
    obtain ⟨ns, rfl, hn⟩ := ints_of acc fun z hz => h z (List.mem_cons_of_mem _ hz)
    exact ⟨i :: ns, rfl, fun j hj => by
      rcases List.mem_cons.mp hj with rfl | hj
      · exact hi
      · exact hn j hj⟩
theorem lc_ints {lo : Int} {n : Nat} {g : TGD} {te : TD} {sdw : List Sl} {Q : List D → Prop} (P : Int → Prop) (hl : n ≤ sizeLine)
    (hstep : ∀ d, ∀ K : D → Prop, (∀ i, P i → K (.int i)) → g d sdw fun sd2 => te sd2 K)
    (hend : ∀ ns : List Int, ns.length = n → (∀ i ∈ ns, P i) → Q (ns.map D.int)) : lcI (rgD lo n) g (fun _ Q => Q true) te sdw [] Q := by
  unfold rgD
  refine lcI_all (xs := List.range n) (fun d => ∃ i, d = .int i ∧ P i) (by rw [List.length_range]; exact hl) (fun x _ K hK => hstep _ K fun i hi => hK _ ⟨i, rfl, hi⟩) fun acc ha hp => ?_
  rw [List.length_range] at ha
  obtain ⟨ns, rfl, hn⟩ := ints_of acc hp
  exact hend ns (by simpa using ha) hn
theorem cut_take {α : Type} {xs : List α} {i : Int} (h : 0 ≤ i) : cut xs none (some i) = xs.take i.toNat := by
  have e : i = (i.toNat : Int) := by omega
  unfold cut
  rw [e, HT.sIx_nat, HT.sIx_none, Nat.sub_zero, List.drop_zero, Int.toNat_natCast, ← List.take_eq_take_min]
theorem cut_map {α β : Type} {f : α → β} {xs : List α} {lo hi : Option Int} : cut (xs.map f) lo hi = (cut xs lo hi).map f := by
  unfold cut
  rw [List.length_map, List.map_take, List.map_drop]
end LD

namespace LD
open PySem PySem.Spec L2
/-! ### elders, told by a program -/
def stillB (r : List Int) : Bool := decide (r ∈ ([[], [2, 2]] : List (List Int)))
def ChainOk (r : List Int) (es : List (List Int)) : Prop := (∀ e ∈ r :: es, Pos1 e ∧ e.length ≤ 100000 ∧ (unsay e).length ≤ 1000000) ∧ es.length ≤ 100000
def ageD (r : List Int) (es : List (List Int)) : D := if stillB r then .non else .int es.length
def hereD : List (List Int) → D
  | [] => .non
  | e :: _ => rowD e
def eldersF : Nat → List Int → Option (List (List Int))
  | 0, _ => none
  | n + 1, r => match elderL r with
    | none => some []
    | some e => (eldersF n e).map (e :: ·)
theorem eldersF_ok : ∀ (n : Nat) (r : List Int) (es : List (List Int)), eldersF n r = some es → Elders r es
  | 0, _, _, h => by cases h
  | n + 1, r, es, h => by
    rw [eldersF] at h
    cases he : elderL r with
    | none => rw [he] at h; cases h; exact .nil he
    | some e =>
      rw [he] at h
      have h : (eldersF n e).map (e :: ·) = some es := h
      cases hr : eldersF n e with
      | none => rw [hr] at h; cases h
      | some fs =>
        rw [hr] at h
        cases h
        exact .cons he (eldersF_ok n e fs hr)
theorem isRow_pos {r : List Int} (h : isRowB r = true) : Pos1 r := fun x hx => by
  unfold isRowB at h
  rw [Bool.and_eq_true, List.all_eq_true] at h
  have := h.2 x hx
  simp at this
  omega
theorem isRow_len {r : List Int} (h : isRowB r = true) : r.length ≤ 60 := by
  unfold isRowB at h
  rw [Bool.and_eq_true] at h
  exact of_decide_eq_true h.1
theorem isRow_top {r : List Int} (h : isRowB r = true) : ∀ x ∈ r, x ≤ 99 := fun x hx => by
  unfold isRowB at h
  rw [Bool.and_eq_true, List.all_eq_true] at h
  have := h.2 x hx
  simp at this
  omega
theorem unsay_len {m : Nat} : ∀ {r : List Int}, (∀ x ∈ r, x ≤ m) → (unsay r).length ≤ m * r.length
  | [], _ => by simp [unsay]
  | [_], _ => by simp [unsay]
  | c :: a :: r, h => by
    have ih := unsay_len (m := m) (r := r) fun x hx => h x (by simp [hx])
    have hc := h c (by simp)
    rw [unsay, List.length_append, List.length_replicate, List.length_cons, List.length_cons, Nat.mul_add, Nat.mul_add]
    omega
theorem isRow_unsay {r : List Int} (h : isRowB r = true) : (unsay r).length ≤ 5940 := by
  have h1 := unsay_len (m := 99) (r := r) (fun x hx => by have := isRow_top h x hx; omega)
  have h2 := isRow_len h
  omega
end LD

namespace LD
open PySem PySem.Spec L2
theorem foldA {α β : Type} (f : α → List β) : ∀ (l : List α) (a : List β), l.foldl (fun acc i => acc ++ f i) a = a ++ l.flatMap f
  | [], a => by simp
  | x :: l, a => by rw [List.foldl_cons, foldA f l, List.flatMap_cons, List.append_assoc]
theorem flat_pre {α β : Type} {f : α → List β} {xs pre post : List α} {x : α} (h : xs = pre ++ x :: post) : (pre.flatMap f).length + (f x).length ≤ (xs.flatMap f).length := by
  subst h
  rw [List.flatMap_append, List.flatMap_cons, List.length_append, List.length_append]
  omega
def manyL (length top : Int) : Int := if length % 2 = 1 then 0 else (List.range (length / 2).toNat).foldl (fun acc i => acc * top * (if i = 0 then top else top - 1)) 1
def rowsC (row : List Int) (m w : Nat) : Bool := decide (row = [] ∨ row.getLast? ≠ some ((1 : Int) + (w : Nat)))
def rowsH (t : Nat) (row : List Int) (m : Nat) : List (List Int) := ((List.range t).filter (rowsC row m)).map fun w : Nat => row ++ [(1 : Int) + (m : Nat), 1 + (w : Nat)]
def rowsG (t : Nat) (row : List Int) : List (List Int) := (List.range t).flatMap (rowsH t row)
def rowsStep (t : Nat) (found : List (List Int)) : List (List Int) := found.flatMap (rowsG t)
def rowsL (half t : Nat) : List (List Int) := (List.range half).foldl (fun f _ => rowsStep t f) [[]]
theorem rowsL_succ (h t : Nat) : rowsL (h + 1) t = rowsStep t (rowsL h t) := by
  unfold rowsL
  rw [List.range_succ, List.foldl_append]; rfl
theorem rowsL_len (t : Nat) : ∀ h : Nat, ∀ r ∈ rowsL h t, r.length = 2 * h
  | 0, r, hr => by
    have : r = [] := by simpa [rowsL] using hr
    rw [this]; rfl
  | h + 1, r, hr => by
    rw [rowsL_succ] at hr
    obtain ⟨r0, h0, h1⟩ := List.mem_flatMap.mp hr
    obtain ⟨m, _, h2⟩ := List.mem_flatMap.mp h1
    obtain ⟨w, _, rfl⟩ := List.mem_map.mp h2
    have := rowsL_len t h r0 h0
    simp
    omega
theorem filter_lc {α β : Type} (p : α → Bool) (f : α → β) : ∀ l : List α, l.filterMap (fun x => if p x then some (f x) else none) = (l.filter p).map f
  | [] => rfl
  | x :: l => by
    rw [List.filterMap_cons, List.filter_cons]
    cases h : p x with
    | true => rw [if_pos rfl, if_pos rfl, List.map_cons, filter_lc p f l]
    | false => rw [if_neg Bool.false_ne_true, if_neg Bool.false_ne_true, filter_lc p f l]
theorem deq_row_nil (r : List Int) : deq (.tup (r.map D.int)) (.tup []) = decide (r = []) := deq_row r []
end LD

namespace LD
open PySem PySem.Spec L2
def chainOkB (r : List Int) (es : List (List Int)) : Bool := ((r :: es).all fun e => e.all (fun x => decide (1 ≤ x) && decide (x ≤ 99)) && decide (e.length ≤ 1000)) && decide (es.length ≤ 1000)
def esOf (r : List Int) : List (List Int) := (eldersF 20 r).getD []
def okRowB (r : List Int) : Bool := stillB r || match eldersF 20 r with | some es => chainOkB r es | none => false
theorem chainOk_of {r : List Int} {es : List (List Int)} (h : chainOkB r es = true) : ChainOk r es := by
  unfold chainOkB at h
  rw [Bool.and_eq_true, List.all_eq_true] at h
  have h2 := of_decide_eq_true h.2
  refine ⟨fun e he => ?_, by omega⟩
  have := h.1 e he
  rw [Bool.and_eq_true, List.all_eq_true] at this
  have h3 := of_decide_eq_true this.2
  have h4 : ∀ x ∈ e, 1 ≤ x ∧ x ≤ 99 := fun x hx => by
    have := this.1 x hx
    rw [Bool.and_eq_true] at this
    exact ⟨of_decide_eq_true this.1, of_decide_eq_true this.2⟩
  have h5 := unsay_len (m := 99) (r := e) fun x hx => (h4 x hx).2
  exact ⟨fun x hx => (h4 x hx).1, by omega, by omega⟩
theorem okRow_of {r : List Int} (h : okRowB r = true) : stillB r = true ∨ Elders r (esOf r) ∧ ChainOk r (esOf r) := by
  unfold okRowB at h
  rw [Bool.or_eq_true] at h
  rcases h with h | h
  · exact .inl h
  · refine .inr ?_
    unfold esOf
    cases he : eldersF 20 r with
    | none => rw [he] at h; cases h
    | some es =>
      rw [he] at h
      exact ⟨eldersF_ok _ _ _ he, chainOk_of h⟩
theorem eldersF_len : ∀ (n : Nat) (r : List Int) (es : List (List Int)), eldersF n r = some es → es.length < n
  | 0, _, _, h => by cases h
  | n + 1, r, es, h => by
    rw [eldersF] at h
    cases he : elderL r with
    | none => rw [he] at h; cases h; simp
    | some e =>
      rw [he] at h
      have h : (eldersF n e).map (e :: ·) = some es := h
      cases hr : eldersF n e with
      | none => rw [hr] at h; cases h
      | some fs =>
        rw [hr] at h
        cases h
        have := eldersF_len n e fs hr
        simp; omega
theorem esOf_len (r : List Int) : (esOf r).length ≤ 20 := by
  unfold esOf
  cases he : eldersF 20 r with
  | none => exact Nat.zero_le _
  | some es => exact Nat.le_of_lt (eldersF_len _ _ _ he)
theorem esOf_top {r : List Int} (h : okRowB r = true) (hs : stillB r = false) : ∀ e ∈ esOf r, ∀ x ∈ e, 1 ≤ x ∧ x ≤ 99 := by
  unfold okRowB at h
  rw [hs, Bool.false_or] at h
  unfold esOf
  cases he : eldersF 20 r with
  | none => intro e hm; simp at hm
  | some es =>
    rw [he] at h
    have h : chainOkB r es = true := h
    unfold chainOkB at h
    rw [Bool.and_eq_true, List.all_eq_true] at h
    intro e hm x hx
    have := h.1 e (List.mem_cons_of_mem _ hm)
    rw [Bool.and_eq_true, List.all_eq_true] at this
    have := this.1 x hx
    rw [Bool.and_eq_true] at this
    exact ⟨of_decide_eq_true this.1, of_decide_eq_true this.2⟩
def agedB (n : Int) (r : List Int) : Bool := stillB r || decide (n ≤ (esOf r).length)
def oldL (h t : Nat) : List (List Int) := (rowsL h t).filter fun r => !stillB r
def idxL (r : List Int) : List (List Int) → Option Nat
  | [] => none
  | x :: xs => if x = r then some 0 else (idxL r xs).map (· + 1)
theorem idxL_none {r : List Int} : ∀ {es : List (List Int)}, idxL r es = none ↔ r ∉ es
  | [] => by simp [idxL]
  | x :: xs => by
    rw [idxL]
    by_cases e : x = r
    · simp [e]
    · rw [if_neg e, Option.map_eq_none_iff, idxL_none (es := xs)]
      simp [Ne.symm e]
theorem idxL_some {r : List Int} : ∀ {fs : List (List Int)} {i : Nat}, idxL r fs = some i → ∃ x, fs[i]? = some x ∧ x = r ∧ ∀ (m : Nat) (y : List Int), m < i → fs[m]? = some y → y ≠ r
  | [], i, h => by simp [idxL] at h
  | a :: fs, i, h => by
    rw [idxL] at h
    by_cases e : a = r
    · rw [if_pos e] at h
      cases h
      exact ⟨a, rfl, e, fun m y hm _ => absurd hm (Nat.not_lt_zero _)⟩
    · rw [if_neg e] at h
      cases hj : idxL r fs with
      | none => rw [hj] at h; cases h
      | some j =>
        rw [hj] at h
        cases h
        obtain ⟨x, h1, h2, h3⟩ := idxL_some hj
        refine ⟨x, by simpa using h1, h2, fun m y hm hy => ?_⟩
        cases m with
        | zero => simp at hy; subst hy; exact e
        | succ m =>
          have hm : m + 1 < j + 1 := hm
          exact h3 m y (by omega) (by simpa using hy)
def placeD (r : List Int) (es : List (List Int)) : D := match idxL r es with | none => .non | some i => .int ((i : Nat) + 1)
def meetD (r s : List Int) (es fs : List (List Int)) : D := if r = s then .tup [.int 0, .int 0] else
  match (placeD r (if stillB s then [] else es)).isNon with
  | false => .tup [placeD r (if stillB s then [] else es), .int 0]
  | true => match (placeD s (if stillB r then [] else fs)).isNon with
    | false => .tup [.int 0, placeD s (if stillB r then [] else fs)]
    | true => .non
/-! ### sketches -/
def isSkB (s : List Int) : Bool := decide (s.length ≤ 60) && s.all fun x => decide (0 ≤ x) && decide (x ≤ 99)
def choicesL (n : Int) (t : Nat) : List Int := if n > 0 then [n] else (List.range t).map fun i : Nat => (1 : Int) + (i : Nat)
theorem choices_len (n : Int) (t : Nat) (h : 1 ≤ t) : (choicesL n t).length ≤ t := by
  unfold choicesL; split <;> simp; omega
theorem choices_nodup (n : Int) (t : Nat) : (choicesL n t).Nodup := by
  unfold choicesL
  split
  · simp
  · refine List.pairwise_map.mpr (List.nodup_range.imp fun {a b} h z => h ?_)
    have z : (1 : Int) + (a : Nat) = 1 + (b : Nat) := z
    omega
def getC (cs : List (Int × Int)) (w : Int) : Int := ((cs.find? fun p => decide (p.1 = w)).map (·.2)).getD 0
def cntStep (t : Nat) (st : List (Int × Int) × Int) (c a : Int) : List (Int × Int) × Int :=
  let cs := (choicesL a t).map fun w => (w, (st.2 - getC st.1 w) * ((choicesL c t).length : Nat))
  (cs, (cs.map (·.2)).sum)
def manyS (s : List Int) (t : Nat) : Int := if s.length % 2 = 1 then 0 else ((List.range (s.length / 2)).foldl (fun st i => cntStep t st (s.getD (i * 2) 0) (s.getD (i * 2 + 1) 0)) ([], 1)).2
def okN (row : List Int) (w : Int) : Bool := decide (row = [] ∨ row.getLast? ≠ some w)
def fillH (t : Nat) (a : Int) (row : List Int) (m : Int) : List (List Int) := ((choicesL a t).filter (okN row)).map fun w => row ++ [m, w]
def fillG (t : Nat) (c a : Int) (row : List Int) : List (List Int) := (choicesL c t).flatMap (fillH t a row)
def fillStep (t : Nat) (c a : Int) (found : List (List Int)) : List (List Int) := found.flatMap (fillG t c a)
def fillN (s : List Int) (t : Nat) (n : Nat) : List (List Int) := (List.range n).foldl (fun f i => fillStep t (s.getD (i * 2) 0) (s.getD (i * 2 + 1) 0) f) [[]]
def fillL (s : List Int) (t : Nat) : List (List Int) := if manyS s t = 0 then [] else fillN s t (s.length / 2)
theorem fillN_succ (s : List Int) (t n : Nat) : fillN s t (n + 1) = fillStep t (s.getD (n * 2) 0) (s.getD (n * 2 + 1) 0) (fillN s t n) := by
  unfold fillN
  rw [List.range_succ, List.foldl_append]; rfl
theorem fillN_len (s : List Int) (t : Nat) : ∀ n : Nat, ∀ r ∈ fillN s t n, r.length = 2 * n
  | 0, r, hr => by
    have : r = [] := by simpa [fillN] using hr
    rw [this]; rfl
  | n + 1, r, hr => by
    rw [fillN_succ] at hr
    obtain ⟨r0, h0, h1⟩ := List.mem_flatMap.mp hr
    obtain ⟨m, _, h2⟩ := List.mem_flatMap.mp h1
    obtain ⟨w, _, rfl⟩ := List.mem_map.mp h2
    have := fillN_len s t n r0 h0
    simp
    omega
/-! ### dicts from ints to ints -/
def cntD (cs : List (Int × Int)) : List (Key × D) := cs.map fun p => ((.inl p.1 : Key), D.int p.2)
theorem valD_cnt (cs : List (Int × Int)) (w : Int) : (valD (cntD cs) (.inl w)).getD (.int 0) = .int (getC cs w) := by
  induction cs with
  | nil => rfl
  | cons p cs ih =>
    unfold valD cntD getC at *
    simp only [List.map_cons, List.find?_cons]
    by_cases e : p.1 = w
    · subst e
      simp
    · have e2 : ¬ (Sum.inl p.1 : Key) = Sum.inl w := fun z => e (Sum.inl.inj z)
      rw [decide_eq_false e2, decide_eq_false e]
      exact ih
theorem putD_new {κ : Type} [DecidableEq κ] {kvs : List (κ × D)} {k : κ} (v : D) (h : k ∉ kvs.map (·.1)) : putD kvs k v = kvs ++ [(k, v)] := by
  unfold putD
  rw [if_neg]
  intro z
  obtain ⟨p, hp, he⟩ := List.any_eq_true.mp z
  exact h (List.mem_map.mpr ⟨p, hp, of_decide_eq_true he⟩)
theorem fold_putD {α κ : Type} [DecidableEq κ] (f : α → κ) (v : α → D) : ∀ (xs : List α) (acc : List (κ × D)), (acc.map (·.1) ++ xs.map f).Nodup → xs.foldl (fun acc x => putD acc (f x) (v x)) acc = acc ++ xs.map fun x => (f x, v x)
  | [], acc, _ => by simp
  | x :: xs, acc, h => by
    have h1 : f x ∉ acc.map (·.1) := fun z => by
      rw [List.nodup_append] at h
      exact h.2.2 _ z _ (by simp) rfl
    rw [List.foldl_cons, putD_new _ h1, fold_putD f v xs, List.append_assoc]
    · rfl
    · rw [List.map_append, List.append_assoc]; exact h
theorem cnt_vals (cs : List (Int × Int)) : (cntD cs).map (·.2) = (cs.map (·.2)).map D.int := by unfold cntD; rw [List.map_map, List.map_map]; rfl
end LD

namespace LD
open PySem PySem.Spec L2
/-! ### chains of elders -/
theorem Elders.drop {r : List Int} {es : List (List Int)} (h : Elders r es) : ∀ {k : Nat} {e : List Int}, es[k]? = some e → Elders e (es.drop (k + 1)) := by
  induction h with
  | nil _ => intro k e h; simp at h
  | cons a b ih =>
    intro k e h
    cases k with
    | zero => simp at h; subst h; simpa using b
    | succ k => simpa using ih (by simpa using h)
theorem Elders.not_mem {r : List Int} {es : List (List Int)} (h : Elders r es) : r ∉ es := by
  intro hr
  obtain ⟨k, hk⟩ := List.getElem?_of_mem hr
  have h2 := h.drop hk
  have h3 := congrArg List.length (h.inj h2)
  have hl := (List.getElem?_eq_some_iff.mp hk).1
  rw [List.length_drop] at h3
  omega
theorem Elders.idx {r : List Int} {es : List (List Int)} (h : Elders r es) {k : Nat} {e : List Int} (hk : es[k]? = some e) : idxL e es = some k := by
  cases hi : idxL e es with
  | none => exact absurd (List.mem_of_getElem? hk) (idxL_none.mp hi)
  | some j =>
    obtain ⟨x, h1, h2, h3⟩ := idxL_some hi
    subst h2
    have h4 := congrArg List.length ((h.drop h1).inj (h.drop hk))
    have l1 := (List.getElem?_eq_some_iff.mp h1).1
    have l2 := (List.getElem?_eq_some_iff.mp hk).1
    rw [List.length_drop, List.length_drop] at h4
    have : j = k := by omega
    rw [this]
theorem Elders.notStill {r : List Int} {es : List (List Int)} (h : Elders r es) : stillB r = false := by
  cases hb : stillB r with
  | false => rfl
  | true =>
    exfalso
    have hm : r ∈ ([[], [2, 2]] : List (List Int)) := of_decide_eq_true hb
    have he : elderL r = some r := by
      rcases List.mem_cons.mp hm with rfl | hm
      · rfl
      · rw [List.mem_singleton.mp hm]; rfl
    cases h with
    | nil h => rw [he] at h; cases h
    | cons h1 h2 =>
      rw [he] at h1
      cases h1
      have h3 := Elders.cons he h2
      have := congrArg List.length (h2.inj h3)
      simp at this
theorem ChainOk.drop {r e : List Int} {es : List (List Int)} (h : ChainOk r es) {k : Nat} (hk : es[k]? = some e) : ChainOk e (es.drop (k + 1)) := by
  refine ⟨fun x hx => h.1 x ?_, by rw [List.length_drop]; have := h.2; omega⟩
  rcases List.mem_cons.mp hx with rfl | hx
  · exact List.mem_cons_of_mem _ (List.mem_of_getElem? hk)
  · exact List.mem_cons_of_mem _ (List.mem_of_mem_drop hx)
theorem meet_back {r e : List Int} {es : List (List Int)} (h : Elders r es) {k : Nat} (hk : es[k]? = some e) : meetD e r es (es.drop (k + 1)) = .tup [.int ((k : Nat) + 1), .int 0] := by
  have hne : ¬ e = r := fun z => h.not_mem (by rw [← z]; exact List.mem_of_getElem? hk)
  have hp : placeD e (if stillB r then [] else es) = .int ((k : Nat) + 1) := by rw [h.notStill, if_neg Bool.false_ne_true]; unfold placeD; rw [h.idx hk]
  unfold meetD
  rw [if_neg hne, hp]; rfl
theorem meet_ahead {r e : List Int} {es : List (List Int)} (h : Elders r es) {k : Nat} (hk : es[k]? = some e) : meetD r e (es.drop (k + 1)) es = .tup [.int 0, .int ((k : Nat) + 1)] := by
  have hne : ¬ r = e := fun z => h.not_mem (by rw [z]; exact List.mem_of_getElem? hk)
  have hp : placeD e (if stillB r then [] else es) = .int ((k : Nat) + 1) := by rw [h.notStill, if_neg Bool.false_ne_true]; unfold placeD; rw [h.idx hk]
  have hq : placeD r (if stillB e then [] else es.drop (k + 1)) = .non := by
    rw [(h.drop hk).notStill, if_neg Bool.false_ne_true]
    unfold placeD
    rw [idxL_none.mpr fun z => h.not_mem (List.mem_of_mem_drop z)]
  unfold meetD
  rw [if_neg hne, hp, hq]; rfl
theorem meet_same {r : List Int} {es fs : List (List Int)} : meetD r r es fs = .tup [.int 0, .int 0] := by unfold meetD; rw [if_pos rfl]
theorem small99 {r : List Int} (h : ∀ x ∈ r, 1 ≤ x ∧ x ≤ 99) (hr : r.length ≤ 60) : ∀ k, (∀ x ∈ sayN k r, 1 ≤ x ∧ x ≤ 99) ∧ ∀ q ∈ runsL (sayN k r), q.1 ≤ 60
  | 0 => ⟨h, fun q hq => by have := runs_cnt r q hq; omega⟩
  | k + 1 => by
    obtain ⟨i1, i2⟩ := small99 h hr k
    refine ⟨fun x hx => ?_, fun q hq => ?_⟩
    · rcases mem_say hx with ⟨q, hq, rfl⟩ | hx
      · exact ⟨(runs_cnt _ q hq).1, by have := i2 q hq; omega⟩
      · exact i1 x hx
    · have := runs_say3 _ q hq
      omega
theorem sayN_still : ∀ k, sayN k [2, 2] = [2, 2]
  | 0 => rfl
  | k + 1 => by show say (sayN k [2, 2]) = _; rw [sayN_still k]; rfl
/-! ### the drawn rows of at most four numbers -/
def ext8 (l : List (List Int)) : List (List Int) := l.flatMap fun r => [1, 2, 3, 4, 5, 9, 12, 99].map fun x => x :: r
def rows8 : List (List Int) := ext8 [[]] ++ ext8 (ext8 [[]]) ++ ext8 (ext8 (ext8 [[]])) ++ ext8 (ext8 (ext8 (ext8 [[]])))
theorem mem_ext8 {l : List (List Int)} {x : Int} {r : List Int} (hx : x ∈ ([1, 2, 3, 4, 5, 9, 12, 99] : List Int)) (hr : r ∈ l) : x :: r ∈ ext8 l :=
  List.mem_flatMap.mpr ⟨r, hr, List.mem_map.mpr ⟨x, hx, rfl⟩⟩
theorem RowOf.mem4 {r : List Int} (h : RowOf 4 r) : r ∈ rows8 := by
  have hl := h.len
  unfold rows8
  match r, h, hl with
  | [], h, _ => exact absurd rfl h.ne
  | [a], h, _ => simp only [List.mem_append]; exact .inl (.inl (.inl (mem_ext8 (h.mem a (by simp)) (by simp))))
  | [a, b], h, _ => simp only [List.mem_append]; exact .inl (.inl (.inr (mem_ext8 (h.mem a (by simp)) (mem_ext8 (h.mem b (by simp)) (by simp)))))
  | [a, b, c], h, _ => simp only [List.mem_append]; exact .inl (.inr (mem_ext8 (h.mem a (by simp)) (mem_ext8 (h.mem b (by simp)) (mem_ext8 (h.mem c (by simp)) (by simp)))))
  | [a, b, c, d], h, _ => simp only [List.mem_append]; exact .inr (mem_ext8 (h.mem a (by simp)) (mem_ext8 (h.mem b (by simp)) (mem_ext8 (h.mem c (by simp)) (mem_ext8 (h.mem d (by simp)) (by simp)))))
  | a :: b :: c :: d :: e :: r, h, hl => simp at hl; omega
theorem rows8_ok : rows8.all okRowB = true := by decide +kernel
/-! ### the rows that have elders, of at most six numbers to three -/
def someL (h t : Nat) : List (List Int) := (rowsL h t).filter (agedB 1)
def finB (h t : Nat) : Bool :=
  decide (manyL ((2 * h : Nat) : Int) t ≤ 5000) && (((List.range (h + 1)).all fun k => decide ((rowsL k t).length ≤ 10000)) && (((rowsL h t).all fun r => okRowB r && isRowB r) &&
  (decide (((someL h t).length : Int) = manyL ((2 * h : Nat) : Int) t) && (((someL h t).all fun r => (elderL r).isSome) && (decide (fillL (List.replicate (2 * h) 0) t = someL h t) &&
  (decide (manyS (List.replicate (2 * h) 0) t = (someL h t).length) && (((List.range (h + 1)).all fun k => decide ((fillN (List.replicate (2 * h) 0) t k).length ≤ 10000)) &&
  decide ((rowsL h t).filter (agedB 2) = (someL h t).filter fun r => stillB r || decide (1 < ((esOf r).length : Int)))))))))) 
theorem fin_all : ((List.range 4).all fun h => (List.range 3).all fun t => finB h (t + 1)) = true := by decide +kernel
structure Fin48 (h t : Nat) : Prop where
  many : manyL ((2 * h : Nat) : Int) t ≤ 5000
  len : ∀ k, k ≤ h → (rowsL k t).length ≤ 10000
  ok : ∀ r ∈ rowsL h t, okRowB r = true
  row : ∀ r ∈ rowsL h t, isRowB r = true
  count : ((someL h t).length : Int) = manyL ((2 * h : Nat) : Int) t
  el : ∀ r ∈ someL h t, (elderL r).isSome = true
  fill : fillL (List.replicate (2 * h) 0) t = someL h t
  sk : manyS (List.replicate (2 * h) 0) t = (someL h t).length
  flen : ∀ k, k ≤ h → (fillN (List.replicate (2 * h) 0) t k).length ≤ 10000
  wide : (rowsL h t).filter (agedB 2) = (someL h t).filter fun r => stillB r || decide (1 < ((esOf r).length : Int))
theorem fin48 {h t : Nat} (hh : h < 4) (ht : t < 3) : Fin48 h (t + 1) := by
  have h1 := List.all_eq_true.mp (List.all_eq_true.mp fin_all h (List.mem_range.mpr hh)) t (List.mem_range.mpr ht)
  unfold finB at h1
  simp only [Bool.and_eq_true, List.all_eq_true, decide_eq_true_eq] at h1
  obtain ⟨a, b, c, d, e, f, g, i, j⟩ := h1
  exact ⟨a, fun k hk => b k (List.mem_range.mpr (by omega)), fun r hr => (c r hr).1, fun r hr => (c r hr).2, d, e, f, g, fun k hk => i k (List.mem_range.mpr (by omega)), j⟩
end LD

namespace LD
open PySem PySem.Spec L2
/-! ### what the top has written -/
theorem FunAt.of {K : PySem.W.Frag} {h : Heap} {mg : Str → Option Value} {x nm : Str} {st : Stmt} {ps : List Str} {f : Addr} {oc : Value} {od an : Option Addr} {osl : Array (Option Value)} {kV doc pm cdv ct : Value} (X : K.In h) (G : h.Ns mainGlobals mg)
    (a : PySem.W.nsIn K mainGlobals x = some (some (.ref f))) (l : K.lookup f = some ⟨oc, od, .func (PySem.W.fnOf nm nm (defArgs st) (defBody st) (defScope st) .none kV doc pm an cdv ct), osl⟩)
    (c : PySem.W.codeIn K cdv nm = true) (k : PySem.W.keepIn K (.ref f) = true)
    (hb : ∀ (kV doc pm : Value) (an : Option Addr) (cdv ct : Value) (us : List Value), us.length = ps.length → bindArgs (PySem.W.fnOf nm nm (defArgs st) (defBody st) (defScope st) .none kV doc pm an cdv ct) ⟨us, []⟩ = pure (ps.zip us)) : FunAt K mg x nm st ps := by
  have F := fun_mk (st := st) l c k
  exact ⟨f, _, F, PySem.W.mg_of X G a, F.binds hb⟩
theorem Cst.ofInt {K : PySem.W.Frag} {h : Heap} {mg : Str → Option Value} {x : Str} {i : Int} {t : Tok} (X : K.In h) (G : h.Ns mainGlobals mg) (a : PySem.W.nsIn K mainGlobals x = some (some (.int i t))) : Cst K mg x (.int i) :=
  ⟨.int i t, .int i, PySem.W.mg_of X G a, ⟨t, rfl⟩, fun _ => .int i⟩
/-- a tuple that the top has made -/
inductive TupK (K : PySem.W.Frag) : Value → D → Prop
  | int {i : Int} {t : Tok} : TupK K (.int i t) (.int i)
  | tup {a : Addr} {o : Obj} {its : List Value} {n : Nat} {ds : List D} : K.lookup a = some o → o.cls = .type "tuple" → o.data = .seq its.toArray n → its.length ≤ sizeLine → Paired (TupK K) its ds → TupK K (.ref a) (.tup ds)
mutual
theorem TupK.rep {K : PySem.W.Frag} : ∀ {u : Value} {d : D}, TupK K u d → ∃ v, RelV v u ∧ ∀ G, Rep K G v d
  | _, _, .int (i := i) => ⟨.int i, ⟨_, rfl⟩, fun _ => .int i⟩
  | _, _, .tup (a := a) h1 h2 h3 h4 hp => by
    obtain ⟨vs, r1, r2⟩ := TupKs.rep hp
    exact ⟨.ref a, rfl, fun G => .tup (.inr ⟨_, _, _, h1, h2, h3, by simpa using h4, by simpa using r1⟩) (r2 G)⟩
theorem TupKs.rep {K : PySem.W.Frag} : ∀ {us : List Value} {ds : List D}, Paired (TupK K) us ds → ∃ vs, Vals vs us ∧ ∀ G, RepL K G vs ds
  | _, _, .nil => ⟨[], .nil, fun _ => .nil⟩
  | _, _, .cons h t => by
    obtain ⟨v, a1, a2⟩ := TupK.rep h
    obtain ⟨vs, b1, b2⟩ := TupKs.rep t
    exact ⟨v :: vs, .cons a1 b1, fun G => .cons (a2 G) (b2 G)⟩
end
theorem Cst.ofTup {K : PySem.W.Frag} {h : Heap} {mg : Str → Option Value} {x : Str} {u : Value} {d : D} (X : K.In h) (G : h.Ns mainGlobals mg) (a : PySem.W.nsIn K mainGlobals x = some (some u)) (t : TupK K u d) : Cst K mg x d := by
  obtain ⟨v, r1, r2⟩ := t.rep
  exact ⟨u, v, PySem.W.mg_of X G a, r1, r2⟩
/-- the law's own def -/
theorem fnOf_def {P : Program} {w : World} {K : PySem.W.Frag} {mg : Str → Option Value} {base : Heap} {nm : Str} {st : Stmt} {f : Addr} {fd : FuncData} {N ps : List Str} {k : Nat} {sp : List D → (D → Prop) → Prop} (F : Fun K nm nm st f fd)
    (S : FnScope N ps (defScope st)) (t : TSD) (hbody : ∀ (f : Addr) (cdv : Value) (A : Around) (outer : List Env) (s : Shared) (H : Hp) (E : XK), Room k (A.deeper (PyProof.Rows.envOfC nm (defScope st) s.heap.objs.size f cdv)) → PSsD (bodyX P w K mg base N nm st f cdv A outer s H E) (defBody st) t)
    (len : ∀ ds Q, sp ds Q → ds.length = ps.length) (hread : ∀ ds (Q : D → Prop), sp ds Q → t { nx := fun _ => Q .non, rt := Q } (initS N.length ds)) : FnOk P w K mg base CX0 (k + 1) f fd ps (spOf K sp) := by
  have hpn : ps.length ≤ N.length := by rw [← S.pre]; exact List.length_take_le' _ _
  refine F.ok S (fun vs H Q E h => ?_) (fun cdv A outer s H vs Q E hr h => ?_)
  · obtain ⟨G, ds, QD, _, r, h, _⟩ := h
    rw [r.length]; exact len ds QD h
  · obtain ⟨G, ds, QD, sg, r, h, q⟩ := h
    obtain ⟨ts, a1, a2⟩ := (hbody f cdv A outer s H E hr).ex
    refine ⟨ts, a1, ?_⟩
    have hl : vs.length ≤ N.length := by rw [r.length, len ds QD h]; exact hpn
    refine a2 (Gs := G) (Dd := { nx := fun _ => QD .non, rt := QD }) (.refl _) (rel_start sg r hl) ⟨fun G' H' σ sd s' r' z => ?_, fun G' H' v d s' e' rv z => ?_, fun _ _ _ _ _ _ z => z.elim, fun _ _ _ _ _ _ z => z.elim⟩ (hread ds QD h)
    · exact q G' H' _ _ r'.ext .non z
    · exact q G' H' v d e' rv z
/-- a law's promise: a script's numbers, none of more than b bits -/
def sp_script : List D → (D → Prop) → Prop := fun ds Q => ∃ (b : Nat) (cs : List Int), ds = [.scr (cs.map D.int)] ∧ cs.length ≤ 63 ∧ b ≤ 1100000 ∧ (∀ x ∈ cs, x.natAbs < 2 ^ b) ∧ Q (.bl true)
theorem bits_lt {x : Int} {b : Nat} (h : Builtin.Int.intBits x ≤ b) : x.natAbs < 2 ^ b := by
  unfold Builtin.Int.intBits at h
  split at h
  · rename_i e
    have : x = 0 := by simpa using e
    rw [this]; exact Nat.two_pow_pos b
  · exact Nat.lt_of_lt_of_le Nat.lt_log2_self (Nat.pow_le_pow_right (by decide) h)
theorem walkS {l : PySem.W.OpenLaw} {k : Nat} {q : Program} {loose : List Str} {XP : (Str → Option Value) → Heap → Prop} {YP : World → Heap → Prop} {d : DefRec} {K : Params → PySem.W.Frag} (hn : l.most = some 63) (hdf : d.params.defaults = []) (hk : Room k callerA)
    (hY : ∀ (w : World) (h : Heap), YP w h → (K w.params).In h)
    (F : ∀ (w : World) (mg : Str → Option Value) (fa : Addr) (h : Heap), (K w.params).In h → h.Ns mainGlobals mg → mg d.name = some (.ref fa) →
      ∃ fd : FuncData, (∀ (s : Shared) (u : Value), BindsTo s fd ⟨[u], []⟩ [("script", u)]) ∧ ∀ base : Heap, (K w.params).In base → base.Ns mainGlobals mg → FnOk l.prog w (K w.params) mg base CX0 k fa fd ["script"] (spOf (K w.params) sp_script)) :
    PySem.W.WalkO q loose XP YP l.row.toRowW d [] (fun f vs => PySem.call f vs) :=
  L2.walk_ofB (n := 63) (k := k) (x := "script") (CX := fun _ => CX0) (sp := fun w => spOf (K w.params) sp_script) hn (by decide) hdf hk hY F
    (fun w H a ns hl hb _ hS => ⟨H, [.scr (ns.map D.int)], fun d => d = .bl true, .refl _, .cons (.scr hS (RepL.of_ints ns)) .nil, ⟨1048576, ns, rfl, hl, by decide, fun x hx => bits_lt (hb x hx), rfl⟩, fun G' H' v d _ rv z => by subst z; cases rv; rfl⟩) fun _ _ _ _ _ z => z
end LD

namespace LD
open PySem PySem.Spec L2
def topS (i : Nat) : Stmt := PySem.Challenge.pw_looksay_k48_across_elders_and_rows_that.main.body.getD i (.Pass ⟨0, 0, 0, 0⟩)
local macro_rules | `(tactic| walk_at "rd") => `(tactic| simp only [dSeq, dIfS, dFrz, frz, dRet, dRetN, dNext, dDrop, dBreak, dCont, dSet, dPar, vD, vF, dApp, dExt, dPop, dSetI, dMove, dAsg, gN, gT_tup, gCons_cons, gNil_nil, dFor, dRng1, dDc, dDictK, dDget, dDget2, dInD, dNotInD, dListRg, dIdx, asLst_lst, vIdx_mk, dSumVals, asKey_int, asDct_dct, dDrwG, dDrwC, dDrwPut, dDrwNew, dRng2, dRng3, dSlice, dNeg, dLc, dLc2, dVar, bVar, dC, d2, dB2, dBV, dChain, dTest, asB_bl, asI_int, asSeq_lst, asSeq_tup, asSeq_scr, iSeq, dAnd, dOr, dNot, dAndV, dOrV, dNotV, dIf, dNil, dCons, dStar, dTup, dLst, dCall, dCallFl, dIsi, vIsi_non, vIsi_bl, vIsi_int, vIsi_str, vIsi_lst, vIsi_tup, isTy_ii, isTy_ib, isTy_it, isTy_is, isTy_id, isTy_il, isTy_tt, isTy_ti, isTy_tb, isTy_tl, isTy_ts, isTy_td, isTy_ll, isTy_li, isTy_lb, isTy_lt, isTy_ls, isTy_bb, isTy_bi, isTy_ss, isTy_nb, isNon_non, isNon_int, isNon_tup, isNon_lst, isNon_bl, isNon_str, vAdd_int, vAdd_tup, vAdd_lst, vAdd_str, vAddL_lst, vSub_int, vI_int, vMul_int, vMul_lst, vMul_tup, vMulL_lst, vNeg_int, vEq, vNe, vCI_int, vIs_non, vIs_bl, vIsNot_non, vIsNot_bl, vIn_lst, vIn_tup, vIn_str, vNotIn_lst, vNotIn_tup, vNotIn_str, vIx_lst, vIx_tup, vIx_scr, vSl_lst, vSl_tup, vSl_str, dPart, dNoPart, vLen_lst, vRepr_bl, vRepr_non, isTy_bs, isTy_sb, isTy_si, isTy_ni, isTy_nt, isTy_nl, isTy_ns, isTy_st, isTy_sl, vLen_tup, vLen_scr, vLen_str, vTup_lst, vTup_tup, vLst_lst, vLst_tup, vLst_scr, vInt_int, vMax2_int, vMin2_int, wipeD, dropOwn, List.getElem?_cons_zero, List.getElem?_cons_succ, List.set_cons_zero, List.set_cons_succ, List.map_cons, List.map_nil, List.length_map, List.length_cons, List.length_nil, initS, Nat.reduceAdd, Nat.reduceSub, List.replicate, List.cons_append, List.nil_append, Bool.not_true, Bool.not_false, if_true, if_false, ifB_t, ifB_f, flatD, okD_int, okD_non, okD_bl, deq_int, optQ_some, true_and, and_true, Option.map_some, Int.reduceNeg])

structure Txt (K : PySem.W.Frag) (mg : Str → Option Value) : Prop where
  n_all : mg "all" = none
  n_bool : mg "bool" = none
  n_dict : mg "dict" = none
  n_int : mg "int" = none
  n_isinstance : mg "isinstance" = none
  n_len : mg "len" = none
  n_list : mg "list" = none
  n_max : mg "max" = none
  n_min : mg "min" = none
  n_range : mg "range" = none
  n_repr : mg "repr" = none
  n_str : mg "str" = none
  n_sum : mg "sum" = none
  n_tuple : mg "tuple" = none
  c_MOST_DAYS : Cst K mg "MOST_DAYS" (.int 60)
  c_MOST_LEAST : Cst K mg "MOST_LEAST" (.int 20)
  c_MOST_LONG : Cst K mg "MOST_LONG" (.int 5000)
  c_MOST_NUMBER : Cst K mg "MOST_NUMBER" (.int 99)
  c_MOST_NUMBERS : Cst K mg "MOST_NUMBERS" (.int 60)
  c_MOST_TOLD : Cst K mg "MOST_TOLD" (.int 5000)
  c_STILL : Cst K mg "STILL" (.tup [(.tup []), (.tup [(.int 2), (.int 2)])])
def sp__law_kinds : List D → (D → Prop) → Prop := fun ds Q => ∃ d : D, ds = [d] ∧ lOk [d] ∧ D.szL [d] ≤ 1000000 ∧ Q (.lst ((kindsF (D.szL [d]) [d]).map nameD))
def sp__law_says : List D → (D → Prop) → Prop := fun ds Q => ∃ d : D, ds = [d, d] ∧ lOk [d] ∧ D.szL [d] ≤ 1000000 ∧ Q (.bl true)
def sp_bar_by : List D → (D → Prop) → Prop := fun ds Q => ∃ r : List Int, ds = [rowD r] ∧ r.length ≤ 100000 ∧ Q (match barL r with | some k => .int (k : Nat) | none => .non)
def sp_elder_by : List D → (D → Prop) → Prop := fun ds Q => ∃ r : List Int, ds = [rowD r] ∧ r.length ≤ 100000 ∧ Pos1 r ∧ (unsay r).length ≤ 1000000 ∧ Q (match elderL r with | some e => rowD e | none => .non)
def sp_elders_by : List D → (D → Prop) → Prop := fun ds Q => ∃ (r : List Int) (es : List (List Int)), ds = [rowD r] ∧ Elders r es ∧ ChainOk r es ∧ Q (.lst (es.map rowD))
def sp_age_by_elders : List D → (D → Prop) → Prop := fun ds Q => ∃ (r : List Int) (es : List (List Int)), ds = [rowD r] ∧ (stillB r = true ∨ Elders r es ∧ ChainOk r es) ∧ Q (ageD r es)
def sp_is_whole : List D → (D → Prop) → Prop := fun ds Q => ∃ i : Int, ds = [.int i] ∧ Q (.bl true)
def sp_is_row_of : List D → (D → Prop) → Prop := fun ds Q => ∃ r : List Int, ds = [rowD r] ∧ Q (.bl (isRowB r))
def sp_need_row : List D → (D → Prop) → Prop := fun ds Q => ∃ (r : List Int) (s : Str), ds = [rowD r, .str s] ∧ isRowB r = true ∧ Q .non
def sp_age : List D → (D → Prop) → Prop := fun ds Q => ∃ (r : List Int) (es : List (List Int)), ds = [rowD r] ∧ isRowB r = true ∧ (stillB r = true ∨ Elders r es ∧ ChainOk r es) ∧ Q (ageD r es)
def sp_place_among : List D → (D → Prop) → Prop := fun ds Q => ∃ (r s : List Int) (es : List (List Int)), ds = [rowD r, rowD s] ∧ (stillB s = true ∨ Elders s es ∧ ChainOk s es) ∧ Q (placeD r (if stillB s then [] else es))
def sp_need_both : List D → (D → Prop) → Prop := fun ds Q => ∃ r s : List Int, ds = [rowD r, rowD s] ∧ isRowB r = true ∧ isRowB s = true ∧ Q .non
def sp_meeting : List D → (D → Prop) → Prop := fun ds Q => ∃ (r s : List Int) (es fs : List (List Int)), ds = [rowD r, rowD s] ∧ isRowB r = true ∧ isRowB s = true ∧ (stillB s = true ∨ Elders s es ∧ ChainOk s es) ∧ (stillB r = true ∨ Elders r fs ∧ ChainOk r fs) ∧ Q (meetD r s es fs)
def sp_many_by_backwards : List D → (D → Prop) → Prop := fun ds Q => ∃ n t : Int, ds = [.int n, .int t] ∧ 0 ≤ n ∧ n ≤ 60 ∧ 1 ≤ t ∧ t ≤ 99 ∧ Q (.int (manyL n t))
def sp_rows_by : List D → (D → Prop) → Prop := fun ds Q => ∃ h t : Nat, ds = [.int ((2 * h : Nat) : Int), .int (t : Int)] ∧ h ≤ 30 ∧ 1 ≤ t ∧ t ≤ 99 ∧ manyL ((2 * h : Nat) : Int) t ≤ 5000 ∧ (∀ k, k ≤ h → (rowsL k t).length ≤ 10000) ∧ Q (.lst ((rowsL h t).map rowD))
def sp_age_by_backwards : List D → (D → Prop) → Prop := fun ds Q => ∃ (r : List Int) (es : List (List Int)), ds = [rowD r] ∧ (stillB r = true ∨ Elders r es ∧ ChainOk r es) ∧ Q (ageD r es)
def sp_is_aged : List D → (D → Prop) → Prop := fun ds Q => ∃ (r : List Int) (es : List (List Int)) (n : Int), ds = [rowD r, .int n] ∧ (stillB r = true ∨ Elders r es ∧ ChainOk r es) ∧ Q (.bl (stillB r || decide (n ≤ es.length)))
def sp_need_least : List D → (D → Prop) → Prop := fun ds Q => ∃ n : Int, ds = [.int n] ∧ 1 ≤ n ∧ n ≤ 20 ∧ Q .non
def sp_need_top : List D → (D → Prop) → Prop := fun ds Q => ∃ n : Int, ds = [.int n] ∧ 1 ≤ n ∧ n ≤ 99 ∧ Q .non
def sp_need_length : List D → (D → Prop) → Prop := fun ds Q => ∃ n : Int, ds = [.int n] ∧ 0 ≤ n ∧ n ≤ 60 ∧ Q .non
def sp_aged_rows : List D → (D → Prop) → Prop := fun ds Q => ∃ (h t : Nat) (n : Int), ds = [.int ((2 * h : Nat) : Int), .int (t : Int), .int n] ∧ h ≤ 30 ∧ 1 ≤ t ∧ t ≤ 99 ∧ 1 ≤ n ∧ n ≤ 20 ∧ manyL ((2 * h : Nat) : Int) t ≤ 5000 ∧ (∀ k, k ≤ h → (rowsL k t).length ≤ 10000) ∧ (∀ r ∈ rowsL h t, okRowB r = true) ∧ Q (.tup (((rowsL h t).filter (agedB n)).map rowD))
def sp_many_with_elder : List D → (D → Prop) → Prop := fun ds Q => ∃ n t : Int, ds = [.int n, .int t] ∧ 0 ≤ n ∧ n ≤ 60 ∧ 1 ≤ t ∧ t ≤ 99 ∧ Q (.int (manyL n t))
def sp__law_mixed (P : Program) (w : World) : List D → (D → Prop) → Prop := fun ds Q => ds = [drw P w] ∧ ∀ n : Int, Q (.int n)
def sp__law_take (P : Program) (w : World) : List D → (D → Prop) → Prop := fun ds Q => ∃ n : Int, ds = [drw P w, .int n] ∧ n ≤ 1125899906842624 ∧ ∀ k : Int, 0 ≤ k → (k < n ∨ k = 0) → Q (.int k)
def sp_elders : List D → (D → Prop) → Prop := fun ds Q => ∃ (r : List Int) (es : List (List Int)), ds = [rowD r] ∧ isRowB r = true ∧ stillB r = false ∧ Elders r es ∧ ChainOk r es ∧ Q (.tup (es.map rowD))
def sp_short_row : List D → (D → Prop) → Prop := fun ds Q => ∃ r : List Int, ds = [rowD r] ∧ r.length ≤ 5000 ∧ Q (rowD r)
def sp_runs_by : List D → (D → Prop) → Prop := fun ds Q => ∃ r : List Int, ds = [rowD r] ∧ r.length ≤ 100000 ∧ Q (.lst ((runsL r).map pairD))
def sp_said_by : List D → (D → Prop) → Prop := fun ds Q => ∃ r : List Int, ds = [rowD r] ∧ r.length ≤ 100000 ∧ Q (rowD (say r))
def sp_days_by : List D → (D → Prop) → Prop := fun ds Q => ∃ (r : List Int) (n : Int), ds = [rowD r, .int n] ∧ 0 ≤ n ∧ n ≤ 60 ∧ r.length ≤ 5000 ∧ (∀ k : Nat, (k : Int) ≤ n → (sayN k r).length ≤ 5000) ∧ Q (.lst ((daysL r n.toNat).map rowD))
def sp_need_days : List D → (D → Prop) → Prop := fun ds Q => ∃ n : Int, ds = [.int n] ∧ 0 ≤ n ∧ n ≤ 60 ∧ Q .non
def sp_said_often : List D → (D → Prop) → Prop := fun ds Q => ∃ (r : List Int) (n : Int), ds = [rowD r, .int n] ∧ isRowB r = true ∧ 0 ≤ n ∧ n ≤ 60 ∧ (∀ k : Nat, (k : Int) ≤ n → (sayN k r).length ≤ 5000) ∧ Q (rowD (sayN n.toNat r))
def sp__law_pick (P : Program) (w : World) : List D → (D → Prop) → Prop := fun ds Q => ∃ xs : List D, (ds = [drw P w, .lst xs] ∨ ds = [drw P w, .tup xs]) ∧ xs ≠ [] ∧ xs.length ≤ sizeLine ∧ ∀ x ∈ xs, Q x
def sp__law_runs : List D → (D → Prop) → Prop := fun ds Q => ∃ r : List Int, ds = [rowD r] ∧ r.length ≤ 100000 ∧ Q (.lst ((runsL r).map pairD))
def sp__law_said : List D → (D → Prop) → Prop := fun ds Q => ∃ r : List Int, ds = [rowD r] ∧ r.length ≤ 100000 ∧ Q (rowD (say r))
def sp__law_days : List D → (D → Prop) → Prop := fun ds Q => ∃ (r : List Int) (n : Int), ds = [rowD r, .int n] ∧ 0 ≤ n ∧ n ≤ 60 ∧ (∀ k : Nat, (k : Int) ≤ n → (sayN k r).length ≤ 100000) ∧ Q (.lst ((daysL r n.toNat).map rowD))
theorem pick_ints {P : Program} {w : World} {xs : List Int} {Q : D → Prop} (h : xs ≠ []) (hl : xs.length ≤ 1000) (q : ∀ i ∈ xs, Q (.int i)) : sp__law_pick P w [drw P w, .lst (xs.map D.int)] Q :=
  ⟨xs.map D.int, .inl rfl, by simpa using h, by rw [List.length_map, sizeLine_eq]; omega, fun x hx => by
    obtain ⟨i, hi, rfl⟩ := List.mem_map.mp hx
    exact q i hi⟩

def sp__law_row (P : Program) (w : World) : List D → (D → Prop) → Prop := fun ds Q => ∃ most : Int, ds = [drw P w, .int most] ∧ 1 ≤ most ∧ most ≤ 60 ∧ ∀ r : List Int, RowOf most r → Q (rowD r)
def sp_oldest : List D → (D → Prop) → Prop := fun ds Q => ∃ (h t : Nat), ds = [.int ((2 * h : Nat) : Int), .int (t : Int)] ∧ h ≤ 30 ∧ 1 ≤ t ∧ t ≤ 99 ∧ manyL ((2 * h : Nat) : Int) t ≤ 5000 ∧ (∀ k, k ≤ h → (rowsL k t).length ≤ 10000) ∧ (∀ r ∈ rowsL h t, okRowB r = true) ∧ (oldL h t = [] → Q .non) ∧ (∀ m : Int, (∃ r ∈ oldL h t, ((esOf r).length : Int) = m) → (∀ r ∈ oldL h t, ((esOf r).length : Int) ≤ m) → Q (.tup [.int m, .tup (((oldL h t).filter fun r => decide (((esOf r).length : Int) = m)).map rowD)]))
def sp_choices : List D → (D → Prop) → Prop := fun ds Q => ∃ (n : Int) (t : Nat), ds = [.int n, .int (t : Int)] ∧ t ≤ 1000 ∧ Q (.lst ((choicesL n t).map D.int))
def sp_many_by_sketches : List D → (D → Prop) → Prop := fun ds Q => ∃ (s : List Int) (t : Nat), ds = [rowD s, .int (t : Int)] ∧ s.length ≤ 60 ∧ 1 ≤ t ∧ t ≤ 99 ∧ Q (.int (manyS s t))
def sp_need_sketch : List D → (D → Prop) → Prop := fun ds Q => ∃ s : List Int, ds = [rowD s] ∧ isSkB s = true ∧ Q .non
def sp_many_fillings : List D → (D → Prop) → Prop := fun ds Q => ∃ (s : List Int) (t : Nat), ds = [rowD s, .int (t : Int)] ∧ isSkB s = true ∧ 1 ≤ t ∧ t ≤ 99 ∧ Q (.int (manyS s t))
def sp_fillings_by : List D → (D → Prop) → Prop := fun ds Q => ∃ (s : List Int) (t : Nat), ds = [rowD s, .int (t : Int)] ∧ s.length ≤ 60 ∧ 1 ≤ t ∧ t ≤ 99 ∧ manyS s t ≤ 5000 ∧ (manyS s t ≠ 0 → s.length % 2 = 0 ∧ ∀ k, k ≤ s.length / 2 → (fillN s t k).length ≤ 10000) ∧ Q (.lst ((fillL s t).map rowD))
def sp_fillings : List D → (D → Prop) → Prop := fun ds Q => ∃ (s : List Int) (t : Nat), ds = [rowD s, .int (t : Int)] ∧ isSkB s = true ∧ 1 ≤ t ∧ t ≤ 99 ∧ manyS s t ≤ 5000 ∧ (manyS s t ≠ 0 → s.length % 2 = 0 ∧ ∀ k, k ≤ s.length / 2 → (fillN s t k).length ≤ 10000) ∧ Q (.tup ((fillL s t).map rowD))
def sp_elder : List D → (D → Prop) → Prop := fun ds Q => ∃ r : List Int, ds = [rowD r] ∧ isRowB r = true ∧ Q (match elderL r with | some e => rowD e | none => .non)
def sp__law_right (P : Program) (w : World) : List D → (D → Prop) → Prop := fun ds Q => ds = [drw P w] ∧ Q (.bl true)
def sp__law_begun (P : Program) (w : World) : List D → (D → Prop) → Prop := fun ds Q => ∃ (b : Nat) (cs : List Int), ds = [.scr (cs.map D.int)] ∧ cs.length ≤ 63 ∧ b ≤ 1100000 ∧ (∀ x ∈ cs, x.natAbs < 2 ^ b) ∧ Q (drw P w)
section
variable {P : Program} {w : World} {K : PySem.W.Frag} {mg : Str → Option Value} {base : Heap}

abbrev st__law_kinds : Stmt := topS 67
theorem sc__law_kinds : FnScope ["thing", "found", "line", "one", "key"] ["thing"] (defScope st__law_kinds) := ⟨rfl, rfl, rfl, by decide +kernel, rfl, by decide +kernel, by decide +kernel⟩
set_option maxHeartbeats 4000000 in
theorem df__law_kinds (F : FunAt K mg "_law_kinds" "_law_kinds" st__law_kinds ["thing"]) (T : Txt K mg)  : Df P w K mg base 1 "_law_kinds" sp__law_kinds := by
  have sc := sc__law_kinds
  refine Df.of F sc__law_kinds _ (fun f cdv A outer s H E hr =>
    (pssd_cons (psd_par (i := 1) (j := 2) rfl sc.nd rfl rfl (by decide) rfl rfl (pf_lst pad_nil).pv (pf_lst (pad_cons (pd_v 0) pad_nil)).pv (by rfl))
    (pssd_cons (psd_while PassesOwn.never (ptd_ne hr.units (pb_v 2) (pf_lst pad_nil).pd.pb)
    (pssd_cons (psd_pop 3 2 sc.nd rfl (.inl rfl))
    (pssd_one (psd_if (pwd_or (ptd_isi (T := "bool") (by decide) (by rfl) T.n_isinstance (by rfl) T.n_bool (by decide +kernel) (pd_v 3).pb) (pwd_or1 (ptd_is (pd_v 3).pb pd_non.pb))).pt (pssd_one (psd_app 1 (pd_repr (by rfl) T.n_repr (pab_cons (pd_v 3).pb pab_nil)))) (pssd_one (psd_if (ptd_isi (T := "int") (by decide) (by rfl) T.n_isinstance (by rfl) T.n_int (by decide +kernel) (pd_v 3).pb) (pssd_one (psd_app 1 pd_str)) (pssd_one (psd_if (ptd_isi (T := "str") (by decide) (by rfl) T.n_isinstance (by rfl) T.n_str (by decide +kernel) (pd_v 3).pb) (pssd_one (psd_app 1 pd_str)) (pssd_one (psd_if (pwd_or (ptd_isi (T := "list") (by decide) (by rfl) T.n_isinstance (by rfl) T.n_list (by decide +kernel) (pd_v 3).pb) (pwd_or1 (ptd_isi (T := "tuple") (by decide) (by rfl) T.n_isinstance (by rfl) T.n_tuple (by decide +kernel) (pd_v 3).pb))).pt (pssd_cons (psd_app 1 (pd_ifExp (ptd_isi (T := "list") (by decide) (by rfl) T.n_isinstance (by rfl) T.n_list (by decide +kernel) (pd_v 3).pb) pd_str pd_str))
    (pssd_one (psd_set (i := 2) sc.nd rfl (.inl rfl) (pf_addL (pb_v 2) (pf_list (by rfl) T.n_list (pab_cons (pd_v 3).pb pab_nil)).pd.pb).pv))) (pssd_one (psd_if (ptd_isi (T := "dict") (by decide) (by rfl) T.n_isinstance (by rfl) T.n_dict (by decide +kernel) (pd_v 3).pb) pssd_never (pssd_one (psd_app 1 pd_str))))))))))))))
    (pssd_one (psd_frz 1 (psd_ret (pd_v 1)))))))
    ?_ ?_
  · rintro ds Q ⟨_, rfl, _⟩
    rfl
  · rintro ds Q ⟨d, rfl, hok, hsz, q⟩
    walk_at "rd"
    refine ⟨by decide, by rw [sizeLine_eq]; omega, ?_⟩
    refine while_st (β := List D × List D) (γ := Sl) (fun b c => [.dat d, .own (.lst (b.1.map nameD)), .own (.lst b.2), c, .no]) (fun b => lOk b.2 ∧ b.1 ++ kindsF (D.szL b.2) b.2 = kindsF (D.szL [d]) [d] ∧ b.1.length + D.szL b.2 ≤ 1000000) (fun b => D.szL b.2) ([], [d]) .no rfl ⟨hok, rfl, by show 0 + D.szL [d] ≤ _; omega⟩ (fun b c hI K hK => ?_)
    obtain ⟨fo, line⟩ := b
    obtain ⟨i1, i2, i3⟩ := hI
    simp only at i1 i2 i3
    walk_at "rd"
    refine ⟨by decide, ⟨lOk_okD i1, rfl⟩, ?_⟩
    rcases snoc_cases line with rfl | ⟨a, x, rfl⟩
    · rw [kinds_nil, List.append_nil] at i2
      rw [i2]
      exact q
    · rw [deq_nil_snoc]
      have ex : (a ++ [x])[(a ++ [x]).length - 1]? = some x := by rw [List.length_append]; simp
      have hla := lOk_app.mp i1
      have hs1 := szL_append a [x]
      have hs2 := szL_one x
      have hs3 := szL_append a (kInner x)
      have hin := lOk_inner hla.2
      have hlen := len_szL a
      have hlen2 := len_szL (kInner x)
      have es : D.szL (a ++ [x]) = D.szL (a ++ kInner x) + 1 := by omega
      rw [es, kinds_step] at i2
      have fin : ∀ c, K [.dat d, .own (.lst ((fo ++ [x]).map nameD)), .own (.lst (a ++ kInner x)), c, .no] := fun c => hK (fo ++ [x], a ++ kInner x) c ⟨lOk_app.mpr ⟨hla.1, hin⟩, by rw [← i2]; simp, by simp only [List.length_append, List.length_cons, List.length_nil]; omega⟩ (by show D.szL (a ++ kInner x) < D.szL (a ++ [x]); omega)
      have fin0 : kInner x = [] → ∀ c, K [.dat d, .own (.lst ((fo ++ [x]).map nameD)), .own (.lst a), c, .no] := fun h c => by have := fin c; rw [h, List.append_nil] at this; exact this
      simp only [List.map_append, List.map_cons, List.map_nil, nameD] at fin fin0
      have hfo : fo.length < sizeLine := by rw [sizeLine_eq]; omega
      have hk : D.kOkL [x] = true := hla.2.1
      have hz : a.length + (kInner x).length ≤ sizeLine := by rw [sizeLine_eq]; omega
      walk_at "rd"
      simp only [ex, List.dropLast_concat]
      walk_at "rd"
      cases x with
      | non => exact ⟨hfo, fin0 rfl _⟩
      | bl b => exact ⟨hfo, fin0 rfl _⟩
      | int i => exact ⟨hfo, fin0 rfl _⟩
      | str i => exact ⟨hfo, fin0 rfl _⟩
      | lst xs => exact ⟨hfo, hz, fin _⟩
      | tup xs => exact ⟨hfo, hz, fin _⟩
      | _ => simp [D.kOkL, D.kOk] at hk
abbrev st__law_says : Stmt := topS 68
theorem sc__law_says : FnScope ["told", "due"] ["told", "due"] (defScope st__law_says) := ⟨rfl, rfl, rfl, by decide +kernel, rfl, by decide +kernel, by decide +kernel⟩
set_option maxHeartbeats 4000000 in
theorem df__law_says (F : FunAt K mg "_law_says" "_law_says" st__law_says ["told", "due"]) (T : Txt K mg) (D__law_kinds : Df P w K mg base 1 "_law_kinds" sp__law_kinds) : Df P w K mg base 2 "_law_says" sp__law_says := by
  have sc := sc__law_says
  refine Df.of F sc__law_says _ (fun f cdv A outer s H E hr =>
    (pssd_one (psd_ret (pd_and (pd_eq hr.units (pd_call D__law_kinds (hr.mono (by decide)) (by rfl) (pad_cons (pd_v 0) pad_nil)).pb (pd_call D__law_kinds (hr.mono (by decide)) (by rfl) (pad_cons (pd_v 1) pad_nil)).pb).pb (pd_one (pd_eq hr.units (pd_v 0).pb (pd_v 1).pb))))))
    ?_ ?_
  · rintro ds Q ⟨_, rfl, _⟩
    rfl
  · rintro ds Q ⟨d, rfl, hok, hsz, q⟩
    have hk : D.kOk d = true := by have h : (D.kOk d && true) = true := hok.1; rwa [Bool.and_true] at h
    refine ⟨d, rfl, hok, hsz, d, rfl, hok, hsz, ⟨okD_names _, okD_names _⟩, ?_⟩
    rw [deq_names]
    exact ⟨⟨lOk_okD1 hok, lOk_okD1 hok⟩, by rw [eqv_self d hk]; exact q⟩
abbrev st_bar_by : Stmt := topS 27
theorem sc_bar_by : FnScope ["row", "place"] ["row"] (defScope st_bar_by) := ⟨rfl, rfl, rfl, by decide +kernel, rfl, by decide +kernel, by decide +kernel⟩
set_option maxHeartbeats 4000000 in
theorem df_bar_by (F : FunAt K mg "bar_by" "bar_by" st_bar_by ["row"]) (T : Txt K mg)  : Df P w K mg base 1 "bar_by" sp_bar_by := by
  have sc := sc_bar_by
  refine Df.of F sc_bar_by _ (fun f cdv A outer s H E hr =>
    (pssd_cons (psd_if (ptd_eq hr.units (pd_mod (pd_len (by rfl) T.n_len (pab_cons (pd_v 0).pb pab_nil)).pb pd_int.pb).pb pd_int.pb) (pssd_one (psd_ret (pd_len (by rfl) T.n_len (pab_cons (pd_v 0).pb pab_nil)))) pssd_nil)
    (pssd_cons (psd_for PassesOwn.never rfl (pid_rng3 (by rfl) T.n_range pd_int (pd_len (by rfl) T.n_len (pab_cons (pd_v 0).pb pab_nil)) pd_int) (pgd_name (i := 1) sc.nd rfl (.inl rfl))
    (pssd_one (psd_if (ptd_eq hr.units (pd_ix (pd_v 0).pb (pd_v 1).pb).pb (pd_ix (pd_v 0).pb (pd_sub (pd_v 1).pb pd_int.pb).pb).pb) (pssd_one (psd_ret (pd_v 1))) pssd_nil)))
    (pssd_one (psd_ret pd_non)))))
    ?_ ?_
  · rintro ds Q ⟨_, rfl, _⟩
    rfl
  · rintro ds Q ⟨r, rfl, hl, q⟩
    walk_at "rd"
    refine ⟨by decide, ?_⟩
    by_cases ho : r.length % 2 = 1
    · refine ifB_T ?_ ?_
      · show ((r.length : Int) % 2 == 1) = true
        have : (r.length : Int) % 2 = 1 := by omega
        rw [this]; rfl
      · unfold barL at q
        rw [if_pos ho] at q
        exact q
    · refine ifB_F ?_ ?_
      · show ((r.length : Int) % 2 == 1) = false
        have : (r.length : Int) % 2 = 0 := by omega
        rw [this]; rfl
      · refine .mk _ (RgC.two (by omega) (by omega) (by omega) (by omega)) ?_
        have hb := bar_find r ho
        rw [hb] at q
        refine forI_find (xs := List.range (((r.length : Int) - 3 + 1) / 2).toNat) (enc := fun i : Nat => D.int (3 + (i : Nat) * 2)) (fun c : Sl => [.dat (rowD r), c]) (fun i => if r[3 + i * 2]? = r[1 + i * 2]? then some (.int ((3 : Int) + (i : Nat) * 2)) else none) Sl.no rfl (fun i hi c K hn hs => ?_) (fun d hd => ?_) (fun hn c => ?_)
        · rw [List.mem_range] at hi
          walk_at "rd"
          have h1 : 3 + i * 2 < r.length := by omega
          have h2 : 1 + i * 2 < r.length := by omega
          have e1 : atI r ((3 : Int) + (i : Nat) * 2) = some r[3 + i * 2] := by
            rw [show (3 : Int) + (i : Nat) * 2 = ((3 + i * 2 : Nat) : Int) by omega]
            exact atI_nat (List.getElem?_eq_getElem h1)
          have e2 : atI r ((3 : Int) + (i : Nat) * 2 - 2) = some r[1 + i * 2] := by
            rw [show (3 : Int) + (i : Nat) * 2 - 2 = ((1 + i * 2 : Nat) : Int) by omega]
            exact atI_nat (List.getElem?_eq_getElem h2)
          simp only [atI_map, e1, e2]
          walk_at "rd"
          rw [List.getElem?_eq_getElem h1, List.getElem?_eq_getElem h2] at hn hs
          refine ifB_i (fun e => ?_) (fun e => ?_)
          · have e : r[3 + i * 2] = r[1 + i * 2] := by simpa using e
            rw [e, if_pos rfl] at hs
            have := hs _ rfl
            exact this
          · have e : ¬ r[3 + i * 2] = r[1 + i * 2] := by simpa using e
            exact hn (if_neg (by simpa using e)) _
        · rw [hd] at q; exact q
        · rw [hn] at q; exact q
abbrev st_elder_by : Stmt := topS 28
theorem sc_elder_by : FnScope ["row", "found", "place"] ["row"] (defScope st_elder_by) := ⟨rfl, rfl, rfl, by decide +kernel, rfl, by decide +kernel, by decide +kernel⟩
set_option maxHeartbeats 4000000 in
theorem df_elder_by (F : FunAt K mg "elder_by" "elder_by" st_elder_by ["row"]) (T : Txt K mg) (D_bar_by : Df P w K mg base 1 "bar_by" sp_bar_by) : Df P w K mg base 2 "elder_by" sp_elder_by := by
  have sc := sc_elder_by
  refine Df.of F sc_elder_by _ (fun f cdv A outer s H E hr =>
    (pssd_cons (psd_if (ptd_isNot (pd_call D_bar_by (hr.mono (by decide)) (by rfl) (pad_cons (pd_v 0) pad_nil)).pb pd_non.pb) (pssd_one (psd_ret pd_non)) pssd_nil)
    (pssd_cons (psd_set (i := 1) sc.nd rfl (.inl rfl) (pf_lst pad_nil).pd.pv)
    (pssd_cons (psd_for PassesOwn.never rfl (pid_rng3 (by rfl) T.n_range pd_int (pd_len (by rfl) T.n_len (pab_cons (pd_v 0).pb pab_nil)) pd_int) (pgd_name (i := 2) sc.nd rfl (.inl rfl))
    (pssd_one (psd_set (i := 1) sc.nd rfl (.inl rfl) (pd_add (pd_v 1).pb (pd_mul (pf_lst (pad_cons (pd_ix (pd_v 0).pb (pd_add (pd_v 2).pb pd_int.pb).pb) pad_nil)).pd.pb (pd_ix (pd_v 0).pb (pd_v 2).pb).pb).pb).pv)))
    (pssd_one (psd_ret (pd_tuple (by rfl) T.n_tuple (pab_cons (pd_v 1).pb pab_nil))))))))
    ?_ ?_
  · rintro ds Q ⟨_, rfl, _⟩
    rfl
  · rintro ds Q ⟨r, rfl, hl, hp, hu, q⟩
    refine ⟨r, rfl, hl, ?_⟩
    cases hb : barL r with
    | some k =>
      unfold elderL at q
      rw [hb, if_neg (by simp)] at q
      exact q
    | none =>
      unfold elderL at q
      rw [hb, if_pos rfl] at q
      walk_at "rd"
      have he : r.length % 2 = 0 := by
        unfold barL at hb
        by_cases h : r.length % 2 = 1
        · rw [if_pos h] at hb; cases hb
        · omega
      refine ⟨by decide, .mk _ (RgC.two (by omega) (by omega) (by omega) (by omega)) ?_⟩
      have hn : (((r.length : Int) - 0 + 1) / 2).toNat = r.length / 2 := by omega
      rw [hn]
      refine forI_fold (xs := List.range (r.length / 2)) (enc := fun i : Nat => D.int (0 + (i : Nat) * 2)) (β := List Int) (fun acc (c : Sl) => [.dat (rowD r), .dat (.lst (acc.map D.int)), c]) (fun acc i => acc ++ List.replicate (r.getD (i * 2) 0).toNat (r.getD (i * 2 + 1) 0)) [] Sl.no rfl (fun pre i post hx c K hK => ?_) (fun c => ?_)
      · have hi : i < r.length / 2 := by
          have : i ∈ List.range (r.length / 2) := by rw [hx]; simp
          simpa using this
        have hpre := range_pre hx
        walk_at "rd"
        have h1 : i * 2 < r.length := by omega
        have h2 : i * 2 + 1 < r.length := by omega
        have e1 : atI r ((0 : Int) + (i : Nat) * 2) = some (r.getD (i * 2) 0) := by
          rw [show (0 : Int) + (i : Nat) * 2 = ((i * 2 : Nat) : Int) by omega]
          exact atI_nat (by rw [List.getElem?_eq_getElem h1, List.getD_eq_getElem?_getD, List.getElem?_eq_getElem h1]; rfl)
        have e2 : atI r ((0 : Int) + (i : Nat) * 2 + 1) = some (r.getD (i * 2 + 1) 0) := by
          rw [show (0 : Int) + (i : Nat) * 2 + 1 = ((i * 2 + 1 : Nat) : Int) by omega]
          exact atI_nat (by rw [List.getElem?_eq_getElem h2, List.getD_eq_getElem?_getD, List.getElem?_eq_getElem h2]; rfl)
        simp only [atI_map, e1, e2]
        walk_at "rd"
        have hfull := unsay_fold_full r (r.length / 2) (by omega)
        have hle : (pre.foldl (fun acc i => acc ++ List.replicate (r.getD (i * 2) 0).toNat (r.getD (i * 2 + 1) 0)) [] ++ List.replicate (r.getD (i * 2) 0).toNat (r.getD (i * 2 + 1) 0)).length ≤ 1000000 := by
          refine Nat.le_trans ?_ hu
          rw [← hfull, hx, List.foldl_append, List.foldl_cons]
          exact fold_mono _ _ _
        rw [List.length_append, List.length_replicate] at hle
        have hk : 1 ≤ r.getD (i * 2) 0 := hp _ (by rw [List.getD_eq_getElem?_getD, List.getElem?_eq_getElem h1]; exact List.getElem_mem h1)
        generalize hkk : r.getD (i * 2) 0 = kk at hk hle hK ⊢
        have hs1 : 1 * kk.toNat ≤ sizeLine := by rw [sizeLine_eq]; omega
        refine ⟨by decide, by omega, by omega, hs1, ?_⟩
        have e3 : (List.replicate kk.toNat [D.int (r.getD (i * 2 + 1) 0)]).flatten = (List.replicate kk.toNat (r.getD (i * 2 + 1) 0)).map D.int := by
          induction kk.toNat with
          | zero => rfl
          | succ n ih => rw [List.replicate_succ, List.replicate_succ, List.flatten_cons, List.map_cons, ih]; rfl
        rw [e3]
        refine ⟨by rw [List.length_map, List.length_replicate, sizeLine_eq]; omega, ?_⟩
        have := hK (.dat (.int (0 + (i : Nat) * 2)))
        rw [← List.map_append]
        exact this
      · rw [unsay_fold_full r _ (by omega)]
        exact q
abbrev st_elders_by : Stmt := topS 29
theorem sc_elders_by : FnScope ["row", "found", "here"] ["row"] (defScope st_elders_by) := ⟨rfl, rfl, rfl, by decide +kernel, rfl, by decide +kernel, by decide +kernel⟩
set_option maxHeartbeats 4000000 in
theorem df_elders_by (F : FunAt K mg "elders_by" "elders_by" st_elders_by ["row"]) (T : Txt K mg) (D_elder_by : Df P w K mg base 2 "elder_by" sp_elder_by) : Df P w K mg base 3 "elders_by" sp_elders_by := by
  have sc := sc_elders_by
  refine Df.of F sc_elders_by _ (fun f cdv A outer s H E hr =>
    (pssd_cons (psd_par (i := 1) (j := 2) rfl sc.nd rfl rfl (by decide) rfl rfl (pf_lst pad_nil).pv (pd_call D_elder_by (hr.mono (by decide)) (by rfl) (pad_cons (pd_v 0) pad_nil)).pv (by rfl))
    (pssd_cons (psd_while PassesOwn.never (ptd_isNot (pd_v 2).pb pd_non.pb)
    (pssd_cons (psd_app 1 (pd_v 2))
    (pssd_one (psd_set (i := 2) sc.nd rfl (.inl rfl) (pd_call D_elder_by (hr.mono (by decide)) (by rfl) (pad_cons (pd_v 2) pad_nil)).pv))))
    (pssd_one (psd_frz 1 (psd_ret (pd_v 1)))))))
    ?_ ?_
  · rintro ds Q ⟨_, _, rfl, _⟩
    rfl
  · rintro ds Q ⟨r, es, rfl, he, hc, q⟩
    have ok : ∀ e ∈ r :: es, Pos1 e ∧ e.length ≤ 100000 ∧ (unsay e).length ≤ 1000000 := hc.1
    have hel : (match elderL r with | some e => rowD e | none => D.non) = hereD es := by
      cases he with
      | nil h => rw [h]; rfl
      | cons h _ => rw [h]; rfl
    have hr := ok r (by simp)
    walk_at "rd"
    refine ⟨by decide, r, rfl, hr.2.1, hr.1, hr.2.2, ?_⟩
    rw [hel]
    refine while_st (β := List (List Int) × List (List Int)) (γ := Unit) (fun b _ => [.dat (rowD r), .own (.lst (b.1.map rowD)), .dat (hereD b.2)]) (fun b => b.1 ++ b.2 = es ∧ ∀ e fs, b.2 = e :: fs → Elders e fs) (fun b => b.2.length) ([], es) () rfl ⟨rfl, fun e fs h => ?_⟩ (fun b _ hI K hK => ?_)
    · have h : es = e :: fs := h
      subst h
      cases he with
      | cons _ h => exact h
    · obtain ⟨fo, rest⟩ := b
      obtain ⟨i1, i2⟩ := hI
      have i1 : fo ++ rest = es := i1
      cases rest with
      | nil =>
        rw [List.append_nil] at i1
        subst i1
        exact q
      | cons e fs =>
        have h2 := i2 e fs rfl
        have hok := ok e (by rw [← i1]; simp)
        have hel : (match elderL e with | some e => rowD e | none => D.non) = hereD fs := by
          cases h2 with
          | nil h => rw [h]; rfl
          | cons h _ => rw [h]; rfl
        have hlen : fo.length + (fs.length + 1) ≤ 100000 := by
          have := congrArg List.length i1
          have h3 := hc.2
          simp at this
          omega
        show (fo.map rowD).length < sizeLine ∧ _
        refine ⟨by rw [List.length_map, sizeLine_eq]; omega, e, rfl, hok.2.1, hok.1, hok.2.2, ?_⟩
        rw [hel]
        have := hK (fo ++ [e], fs) () ⟨by rw [← i1]; simp, fun e' fs' h' => by
          have h' : fs = e' :: fs' := h'
          subst h'
          cases h2 with
          | cons _ h => exact h⟩ (by show fs.length < (e :: fs).length; simp)
        rw [List.map_append] at this
        exact this
abbrev st_age_by_elders : Stmt := topS 30
theorem sc_age_by_elders : FnScope ["row"] ["row"] (defScope st_age_by_elders) := ⟨rfl, rfl, rfl, by decide +kernel, rfl, by decide +kernel, by decide +kernel⟩
set_option maxHeartbeats 4000000 in
theorem df_age_by_elders (F : FunAt K mg "age_by_elders" "age_by" st_age_by_elders ["row"]) (T : Txt K mg) (D_elders_by : Df P w K mg base 3 "elders_by" sp_elders_by) : Df P w K mg base 4 "age_by_elders" sp_age_by_elders := by
  have sc := sc_age_by_elders
  refine Df.of F sc_age_by_elders _ (fun f cdv A outer s H E hr =>
    (pssd_one (psd_ret (pd_ifExp (ptd_in (hu65 hr) (pd_v 0).pb (pd_cst T.c_STILL (by rfl)).pb) pd_non (pd_len (by rfl) T.n_len (pab_cons (pd_call D_elders_by (hr.mono (by decide)) (by rfl) (pad_cons (pd_v 0) pad_nil)).pb pab_nil))))))
    ?_ ?_
  · rintro ds Q ⟨_, _, rfl, _⟩
    rfl
  · rintro ds Q ⟨r, es, rfl, h, q⟩
    walk_at "rd"
    refine ⟨⟨okD_row r, by decide⟩, ?_⟩
    show ifB (dIn (rowD r) (([[], [2, 2]] : List (List Int)).map rowD)) _ _
    rw [dIn_row]
    refine ifB_i (fun hb => ?_) (fun hb => ?_)
    · have e : ageD r es = .non := by unfold ageD stillB; rw [if_pos hb]
      rw [e] at q
      exact q
    · have e : ageD r es = .int es.length := by unfold ageD stillB; rw [if_neg (by rw [hb]; decide)]
      rw [e] at q
      rcases h with h | ⟨h1, h2⟩
      · unfold stillB at h; rw [hb] at h; cases h
      · refine ⟨r, es, rfl, h1, h2, ?_⟩
        walk_at "rd"
        exact q
abbrev st_is_whole : Stmt := topS 16
theorem sc_is_whole : FnScope ["thing"] ["thing"] (defScope st_is_whole) := ⟨rfl, rfl, rfl, by decide +kernel, rfl, by decide +kernel, by decide +kernel⟩
set_option maxHeartbeats 4000000 in
theorem df_is_whole (F : FunAt K mg "is_whole" "is_whole" st_is_whole ["thing"]) (T : Txt K mg)  : Df P w K mg base 1 "is_whole" sp_is_whole := by
  have sc := sc_is_whole
  refine Df.of F sc_is_whole _ (fun f cdv A outer s H E hr =>
    (pssd_one (psd_ret (pd_and (pd_isi (T := "int") (by decide) (by rfl) T.n_isinstance (by rfl) T.n_int (by decide +kernel) (pd_v 0).pb).pb (pd_one (pd_not (pd_isi (T := "bool") (by decide) (by rfl) T.n_isinstance (by rfl) T.n_bool (by decide +kernel) (pd_v 0).pb).pb))))))
    ?_ ?_
  · rintro ds Q ⟨_, rfl, _⟩
    rfl
  · rintro ds Q ⟨i, rfl, q⟩
    exact q
abbrev st_is_row_of : Stmt := topS 17
theorem sc_is_row_of : FnScope ["thing", "number"] ["thing"] (defScope st_is_row_of) := ⟨rfl, rfl, rfl, by decide +kernel, rfl, by decide +kernel, by decide +kernel⟩
set_option maxHeartbeats 4000000 in
theorem df_is_row_of (F : FunAt K mg "is_row_of" "is_row_of" st_is_row_of ["thing"]) (T : Txt K mg) (D_is_whole : Df P w K mg base 1 "is_whole" sp_is_whole) : Df P w K mg base 2 "is_row_of" sp_is_row_of := by
  have sc := sc_is_row_of
  refine Df.of F sc_is_row_of _ (fun f cdv A outer s H E hr =>
    (pssd_cons (psd_if (pwd_or (ptd_not (ptd_isi (T := "tuple") (by decide) (by rfl) T.n_isinstance (by rfl) T.n_tuple (by decide +kernel) (pd_v 0).pb)) (pwd_or1 (ptd_gt (pd_len (by rfl) T.n_len (pab_cons (pd_v 0).pb pab_nil)).pb (pd_cst T.c_MOST_NUMBERS (by rfl)).pb))).pt (pssd_one (psd_ret pd_bl)) pssd_nil)
    (pssd_one (psd_ret (pd_all rfl (by rfl) T.n_all (pab_cons (pf_lc (own := [("number", 1)]) rfl sc.nd (pid_seq (pd_v 0)) (blkOk_by (N := ["thing", "number"]) (sc := defScope st_is_row_of) (by decide +kernel)) (fun _ _ _ _ _ => (pgd_name (i := 1) sc.nd rfl (.inl rfl))) (by decide) (fun _ _ _ _ _ => ptsd_nil) (fun _ _ _ _ _ => (pd_and (pd_call D_is_whole (hr.mono (by decide)) (by rfl) (pad_cons (pd_v 1) pad_nil)).pb (pd_one (pd_chain op_le op_le v_ci v_ci pd_int.pb (pd_v 1).pb (pd_cst T.c_MOST_NUMBER (by rfl)).pb))))).pd.pb pab_nil))))))
    ?_ ?_
  · rintro ds Q ⟨_, rfl, _⟩
    rfl
  · rintro ds Q ⟨r, rfl, q⟩
    walk_at "rd"
    refine ifB_d (fun h => ?_) (fun h => ?_)
    · have e : isRowB r = false := by unfold isRowB; rw [decide_eq_false (by omega)]; rfl
      rw [e] at q
      exact q
    · refine lcI_map (xs := r) (enc := D.int) (fun x => .bl (decide (1 ≤ x) && decide (x ≤ 99))) (by rw [sizeLine_eq]; show 0 + r.length ≤ _; omega) (fun x _ K hK => ?_) ?_
      · refine ⟨x, rfl, ?_⟩
        walk_at "rd"
        refine ifB_i (fun h1 => ?_) (fun h1 => ?_) <;> (rw [h1] at hK; exact hK)
      · refine ⟨r.map fun x => decide (1 ≤ x) && decide (x ≤ 99), by rw [List.map_map]; rfl, ?_⟩
        have e : isRowB r = (r.map fun x => decide (1 ≤ x) && decide (x ≤ 99)).all id := by
          unfold isRowB; rw [decide_eq_true (by omega), Bool.true_and, List.all_map]; rfl
        rw [← e]
        exact q
abbrev st_need_row : Stmt := topS 18
theorem sc_need_row : FnScope ["row", "word"] ["row", "word"] (defScope st_need_row) := ⟨rfl, rfl, rfl, by decide +kernel, rfl, by decide +kernel, by decide +kernel⟩
set_option maxHeartbeats 4000000 in
theorem df_need_row (F : FunAt K mg "need_row" "need_row" st_need_row ["row", "word"]) (T : Txt K mg) (D_is_row_of : Df P w K mg base 2 "is_row_of" sp_is_row_of) : Df P w K mg base 3 "need_row" sp_need_row := by
  have sc := sc_need_row
  refine Df.of F sc_need_row _ (fun f cdv A outer s H E hr =>
    (pssd_cons (psd_if (ptd_val (pd_call D_is_row_of (hr.mono (by decide)) (by rfl) (pad_cons (pd_v 0) pad_nil)).pb) (pssd_one psd_retN) pssd_nil)
    (pssd_cons (psd_if (ptd_eq hr.units (pd_v 1).pb pd_str.pb) pssd_never pssd_nil)
    (pssd_cons (psd_if (ptd_eq hr.units (pd_v 1).pb pd_str.pb) pssd_never pssd_nil)
    (pssd_one psd_never)))))
    ?_ ?_
  · rintro ds Q ⟨_, _, rfl, _⟩
    rfl
  · rintro ds Q ⟨r, s, rfl, h, q⟩
    refine ⟨r, rfl, ?_⟩
    rw [h]
    exact q
abbrev st_age : Stmt := topS 34
theorem sc_age : FnScope ["row"] ["row"] (defScope st_age) := ⟨rfl, rfl, rfl, by decide +kernel, rfl, by decide +kernel, by decide +kernel⟩
set_option maxHeartbeats 4000000 in
theorem df_age (F : FunAt K mg "age" "age" st_age ["row"]) (T : Txt K mg) (D_age_by_elders : Df P w K mg base 4 "age_by_elders" sp_age_by_elders) (D_need_row : Df P w K mg base 3 "need_row" sp_need_row) : Df P w K mg base 5 "age" sp_age := by
  have sc := sc_age
  refine Df.of F sc_age _ (fun f cdv A outer s H E hr =>
    (pssd_cons (psd_expr (pd_call D_need_row (hr.mono (by decide)) (by rfl) (pad_cons (pd_v 0) (pad_cons pd_str pad_nil))).pb)
    (pssd_one (psd_ret (pd_call D_age_by_elders (hr.mono (by decide)) (by rfl) (pad_cons (pd_v 0) pad_nil))))))
    ?_ ?_
  · rintro ds Q ⟨_, _, rfl, _⟩
    rfl
  · rintro ds Q ⟨r, es, rfl, h, he, q⟩
    exact ⟨r, _, rfl, h, r, es, rfl, he, q⟩
abbrev st_place_among : Stmt := topS 52
theorem sc_place_among : FnScope ["row", "other", "elders"] ["row", "other"] (defScope st_place_among) := ⟨rfl, rfl, rfl, by decide +kernel, rfl, by decide +kernel, by decide +kernel⟩
set_option maxHeartbeats 4000000 in
theorem df_place_among (F : FunAt K mg "place_among" "place_among" st_place_among ["row", "other"]) (T : Txt K mg) (D_elders_by : Df P w K mg base 3 "elders_by" sp_elders_by) : Df P w K mg base 4 "place_among" sp_place_among := by
  have sc := sc_place_among
  refine Df.of F sc_place_among _ (fun f cdv A outer s H E hr =>
    (pssd_cons (psd_set (i := 2) sc.nd rfl (.inl rfl) (pd_ifExp (ptd_notIn (hu65 hr) (pd_v 1).pb (pd_cst T.c_STILL (by rfl)).pb) (pd_call D_elders_by (hr.mono (by decide)) (by rfl) (pad_cons (pd_v 1) pad_nil)) (pf_lst pad_nil).pd).pv)
    (pssd_one (psd_ret (pd_ifExp (ptd_in (hu65 hr) (pd_v 0).pb (pd_v 2).pb) (pd_add (pd_m_index1 (hu65 hr) (pd_v 2) (pd_v 0)).pb pd_int.pb) pd_non)))))
    ?_ ?_
  · rintro ds Q ⟨_, _, _, rfl, _⟩
    rfl
  · rintro ds Q ⟨r, s, es, rfl, he, q⟩
    have fin : ∀ fs : List (List Int), Q (placeD r fs) → vIn (rowD r) (.lst (fs.map rowD)) fun b => ifB b (vIdx (.lst (fs.map rowD)) (rowD r) fun d => vAdd d (.int 1) Q) (Q .non) := fun fs q => by
      walk_at "rd"
      refine ⟨⟨okD_row r, okD_rows fs⟩, ?_⟩
      rw [dIn_row]
      unfold placeD at q
      refine ifB_d (fun hb => ?_) (fun hb => ?_)
      · cases hi : idxL r fs with
        | none =>
          exact absurd hb (idxL_none.mp hi)
        | some i =>
          rw [hi] at q
          obtain ⟨x, hx, hxr, hno⟩ := idxL_some hi
          refine ⟨⟨okD_rows fs, okD_row r⟩, i, rowD x, by rw [List.getElem?_map, hx]; rfl, by rw [deq_row, hxr]; exact decide_eq_true rfl, fun m z' hm hz' => ?_, q⟩
          obtain ⟨y, hy, rfl⟩ := map_at hz'
          rw [deq_row]
          exact decide_eq_false (hno m y hm hy)
      · have hi : idxL r fs = none := idxL_none.mpr hb
        rw [hi] at q
        exact q
    walk_at "rd"
    refine ⟨⟨okD_row s, by decide⟩, ?_⟩
    show ifB (!dIn (rowD s) (([[], [2, 2]] : List (List Int)).map rowD)) _ _
    rw [dIn_row]
    show ifB (!stillB s) _ _
    cases hb : stillB s with
    | true =>
      rw [hb, if_pos rfl] at q
      exact ⟨by decide, fin [] q⟩
    | false =>
      rw [hb, if_neg Bool.false_ne_true] at q
      rw [hb] at he
      rcases he with he | ⟨h1, h2⟩
      · cases he
      · exact ⟨s, es, rfl, h1, h2, fin es q⟩
abbrev st_need_both : Stmt := topS 51
theorem sc_need_both : FnScope ["one", "other"] ["one", "other"] (defScope st_need_both) := ⟨rfl, rfl, rfl, by decide +kernel, rfl, by decide +kernel, by decide +kernel⟩
set_option maxHeartbeats 4000000 in
theorem df_need_both (F : FunAt K mg "need_both" "need_both" st_need_both ["one", "other"]) (T : Txt K mg) (D_need_row : Df P w K mg base 3 "need_row" sp_need_row) : Df P w K mg base 4 "need_both" sp_need_both := by
  have sc := sc_need_both
  refine Df.of F sc_need_both _ (fun f cdv A outer s H E hr =>
    (pssd_cons (psd_expr (pd_call D_need_row (hr.mono (by decide)) (by rfl) (pad_cons (pd_v 0) (pad_cons pd_str pad_nil))).pb)
    (pssd_one (psd_expr (pd_call D_need_row (hr.mono (by decide)) (by rfl) (pad_cons (pd_v 1) (pad_cons pd_str pad_nil))).pb))))
    ?_ ?_
  · rintro ds Q ⟨_, _, rfl, _⟩
    rfl
  · rintro ds Q ⟨r, s, rfl, h1, h2, q⟩
    exact ⟨r, _, rfl, h1, s, _, rfl, h2, q⟩
abbrev st_meeting : Stmt := topS 53
theorem sc_meeting : FnScope ["one", "other", "late", "ahead"] ["one", "other"] (defScope st_meeting) := ⟨rfl, rfl, rfl, by decide +kernel, rfl, by decide +kernel, by decide +kernel⟩
set_option maxHeartbeats 4000000 in
theorem df_meeting (F : FunAt K mg "meeting" "meeting" st_meeting ["one", "other"]) (T : Txt K mg) (D_place_among : Df P w K mg base 4 "place_among" sp_place_among) (D_need_both : Df P w K mg base 4 "need_both" sp_need_both) : Df P w K mg base 5 "meeting" sp_meeting := by
  have sc := sc_meeting
  refine Df.of F sc_meeting _ (fun f cdv A outer s H E hr =>
    (pssd_cons (psd_expr (pd_call D_need_both (hr.mono (by decide)) (by rfl) (pad_cons (pd_v 0) (pad_cons (pd_v 1) pad_nil))).pb)
    (pssd_cons (psd_if (ptd_eq hr.units (pd_v 0).pb (pd_v 1).pb) (pssd_one (psd_ret (pd_tup (pad_cons pd_int (pad_cons pd_int pad_nil))))) pssd_nil)
    (pssd_cons (psd_par (i := 2) (j := 3) rfl sc.nd rfl rfl (by decide) rfl rfl (pd_call D_place_among (hr.mono (by decide)) (by rfl) (pad_cons (pd_v 0) (pad_cons (pd_v 1) pad_nil))).pv (pd_call D_place_among (hr.mono (by decide)) (by rfl) (pad_cons (pd_v 1) (pad_cons (pd_v 0) pad_nil))).pv (by rfl))
    (pssd_cons (psd_if (ptd_isNot (pd_v 2).pb pd_non.pb) (pssd_one (psd_ret (pd_tup (pad_cons (pd_v 2) (pad_cons pd_int pad_nil))))) pssd_nil)
    (pssd_one (psd_ret (pd_ifExp (ptd_isNot (pd_v 3).pb pd_non.pb) (pd_tup (pad_cons pd_int (pad_cons (pd_v 3) pad_nil))) pd_non))))))))
    ?_ ?_
  · rintro ds Q ⟨_, _, _, _, rfl, _⟩
    rfl
  · rintro ds Q ⟨r, s, es, fs, rfl, hr, hs, he, hf, q⟩
    refine ⟨r, s, rfl, hr, hs, ?_⟩
    walk_at "rd"
    refine ⟨⟨okD_row r, okD_row s⟩, ?_⟩
    rw [deq_row]
    unfold meetD at q
    refine ifB_d (fun hb => ?_) (fun hb => ?_)
    · rw [if_pos hb] at q
      exact ⟨by rw [sizeLine_eq]; decide, q⟩
    · rw [if_neg hb] at q
      refine ⟨r, s, es, rfl, he, s, r, fs, rfl, hf, ?_⟩
      generalize placeD r (if stillB s then [] else es) = a at q ⊢
      generalize placeD s (if stillB r then [] else fs) = b at q ⊢
      cases ha : a.isNon with
      | false =>
        rw [ha] at q
        exact ⟨by rw [sizeLine_eq]; decide, q⟩
      | true =>
        rw [ha] at q
        show ifB (!b.isNon) _ _
        cases hb : b.isNon with
        | false => rw [hb] at q; exact ⟨by rw [sizeLine_eq]; decide, q⟩
        | true => rw [hb] at q; exact q
abbrev st_many_by_backwards : Stmt := topS 44
theorem sc_many_by_backwards : FnScope ["length", "top", "found", "place"] ["length", "top"] (defScope st_many_by_backwards) := ⟨rfl, rfl, rfl, by decide +kernel, rfl, by decide +kernel, by decide +kernel⟩
set_option maxHeartbeats 4000000 in
theorem df_many_by_backwards (F : FunAt K mg "many_by_backwards" "many_by" st_many_by_backwards ["length", "top"]) (T : Txt K mg)  : Df P w K mg base 1 "many_by_backwards" sp_many_by_backwards := by
  have sc := sc_many_by_backwards
  refine Df.of F sc_many_by_backwards _ (fun f cdv A outer s H E hr =>
    (pssd_cons (psd_if (ptd_eq hr.units (pd_mod (pd_v 0).pb pd_int.pb).pb pd_int.pb) (pssd_one (psd_ret pd_int)) pssd_nil)
    (pssd_cons (psd_set (i := 2) sc.nd rfl (.inl rfl) pd_int.pv)
    (pssd_cons (psd_for PassesOwn.never rfl (pid_rng1 (by rfl) T.n_range (pd_fdiv (pd_v 0).pb pd_int.pb)) (pgd_name (i := 3) sc.nd rfl (.inl rfl))
    (pssd_one (psd_set (i := 2) sc.nd rfl (.inl rfl) (pd_mul (pd_mul (pd_v 2).pb (pd_v 1).pb).pb (pd_ifExp (ptd_eq hr.units (pd_v 3).pb pd_int.pb) (pd_v 1) (pd_sub (pd_v 1).pb pd_int.pb)).pb).pv)))
    (pssd_one (psd_ret (pd_v 2)))))))
    ?_ ?_
  · rintro ds Q ⟨_, _, rfl, _⟩
    rfl
  · rintro ds Q ⟨n, t, rfl, h0, h60, h1, h99, q⟩
    walk_at "rd"
    refine ⟨by decide, ?_⟩
    unfold manyL at q
    refine ifB_i (fun hb => ?_) (fun hb => ?_)
    · have hb : n % 2 = 1 := by simpa using hb
      rw [if_pos hb] at q
      exact q
    · have hb : ¬ n % 2 = 1 := by simpa using hb
      rw [if_neg hb] at q
      refine ⟨⟨by decide, log_small (by decide)⟩, ⟨by omega, by omega⟩, ?_⟩
      refine forI_fold (xs := List.range (n / 2).toNat) (enc := fun i : Nat => D.int (0 + (i : Nat))) (β := Int) (fun acc (c : Sl) => [.dat (.int n), .dat (.int t), .dat (.int acc), c]) (fun acc i => acc * t * (if i = 0 then t else t - 1)) 1 Sl.no rfl (fun pre x post hx c K hK => ?_) (fun c => q)
      generalize List.foldl _ (1 : Int) pre = acc at hK ⊢
      walk_at "rd"
      refine ⟨mulS_r (by omega), ?_⟩
      refine ifB_i (fun hb => ?_) (fun hb => ?_)
      · have hb : x = 0 := by
          have : (0 : Int) + x = 0 := by simpa using hb
          omega
        rw [if_pos hb] at hK
        exact ⟨mulS_r (by omega), hK _⟩
      · have hb : ¬ x = 0 := by
          intro z
          rw [z] at hb
          exact absurd hb (by decide)
        rw [if_neg hb] at hK
        exact ⟨mulS_r (by omega), hK _⟩
abbrev st_rows_by : Stmt := topS 46
theorem sc_rows_by : FnScope ["length", "top", "found", "place", "late", "row", "many", "what"] ["length", "top"] (defScope st_rows_by) := ⟨rfl, rfl, rfl, by decide +kernel, rfl, by decide +kernel, by decide +kernel⟩
set_option maxHeartbeats 4000000 in
theorem df_rows_by (F : FunAt K mg "rows_by" "rows_by" st_rows_by ["length", "top"]) (T : Txt K mg) (D_many_by_backwards : Df P w K mg base 1 "many_by_backwards" sp_many_by_backwards) : Df P w K mg base 2 "rows_by" sp_rows_by := by
  have sc := sc_rows_by
  refine Df.of F sc_rows_by _ (fun f cdv A outer s H E hr =>
    (pssd_cons (psd_if (ptd_gt (pd_call D_many_by_backwards (hr.mono (by decide)) (by rfl) (pad_cons (pd_v 0) (pad_cons (pd_v 1) pad_nil))).pb (pd_cst T.c_MOST_TOLD (by rfl)).pb) pssd_never pssd_nil)
    (pssd_cons (psd_if (ptd_eq hr.units (pd_mod (pd_v 0).pb pd_int.pb).pb pd_int.pb) (pssd_one (psd_ret (pf_lst pad_nil).pd)) pssd_nil)
    (pssd_cons (psd_set (i := 2) sc.nd rfl (.inl rfl) (pf_lst (pad_cons (pd_tup pad_nil) pad_nil)).pd.pv)
    (pssd_cons (psd_for PassesOwn.never rfl (pid_rng1 (by rfl) T.n_range (pd_fdiv (pd_v 0).pb pd_int.pb)) (pgd_name (i := 3) sc.nd rfl (.inl rfl))
    (pssd_cons (psd_set (i := 4) sc.nd rfl (.inl rfl) (pf_lst pad_nil).pv)
    (pssd_cons (psd_for PassesOwn.never rfl (pid_seq (pd_v 2)) (pgd_name (i := 5) sc.nd rfl (.inr rfl))
    (pssd_one (psd_for PassesOwn.never rfl (pid_rng2 (by rfl) T.n_range pd_int (pd_add (pd_v 1).pb pd_int.pb)) (pgd_name (i := 6) sc.nd rfl (.inr rfl))
    (pssd_one (psd_ext 4 (pf_lc (own := [("what", 7)]) rfl sc.nd (pid_rng2 (by rfl) T.n_range pd_int (pd_add (pd_v 1).pb pd_int.pb)) (blkOk_by (N := ["length", "top", "found", "place", "late", "row", "many", "what"]) (sc := defScope st_rows_by) (by decide +kernel)) (fun _ _ _ _ _ => (pgd_name (i := 7) sc.nd rfl (.inl rfl))) (by decide) (fun _ _ _ _ _ => ptsd_one (pwd_or (ptd_eq hr.units (pd_v 5).pb (pd_tup pad_nil).pb) (pwd_or1 (ptd_ne hr.units (pd_ix (pd_v 5).pb (pd_neg pd_int.pb).pb).pb (pd_v 7).pb))).pt) (fun _ _ _ _ _ => (pd_tup (pad_star (pd_v 5) (pad_cons (pd_v 6) (pad_cons (pd_v 7) pad_nil)))))).pd)))))
    (pssd_one (psd_frz 4 (psd_set (i := 2) sc.nd rfl (.inl rfl) (pd_v 4).pv))))))
    (pssd_one (psd_ret (pd_v 2))))))))
    ?_ ?_
  · rintro ds Q ⟨_, _, rfl, _⟩
    rfl
  · rintro ds Q ⟨h, t, rfl, h30, h1, h99, hm, hs, q⟩
    walk_at "rd"
    refine ⟨_, _, rfl, by omega, by omega, by omega, by omega, ?_⟩
    walk_at "rd"
    refine ifB_F (decide_eq_false (by omega)) ?_
    refine ⟨by decide, ?_⟩
    refine ifB_F (by
      have : ((2 * h : Nat) : Int) % 2 = 0 := by omega
      rw [this]; rfl) ?_
    refine ⟨by decide, by decide, ⟨by decide, log_small (by decide)⟩, ⟨by omega, by omega⟩, ?_⟩
    have e2 : (((2 * h : Nat) : Int) / 2).toNat = h := by omega
    rw [e2]
    refine forI_fold (xs := List.range h) (enc := fun i : Nat => D.int (0 + (i : Nat))) (β := List (List Int)) (γ := Sl × Sl × Sl × Sl) (fun acc c => [.dat (.int ((2 * h : Nat) : Int)), .dat (.int (t : Int)), .dat (.lst (acc.map rowD)), c.1, c.2.1, c.2.2.1, c.2.2.2, .no]) (fun f _ => rowsStep t f) [[]] (.no, .no, .no, .no) rfl (fun pre x post hx c K hK => ?_) (fun c => q)
    obtain ⟨rfl, hxh⟩ := range_split hx
    have hacc : (List.range x).foldl (fun f _ => rowsStep t f) [[]] = rowsL x t := rfl
    rw [hacc] at hK ⊢
    have hsz := hs (x + 1) (by omega)
    rw [rowsL_succ] at hsz
    have hlen := rowsL_len t x
    generalize rowsL x t = found at hK hsz hlen ⊢
    walk_at "rd"
    refine ⟨by decide, ?_⟩
    refine forI_fold (xs := found) (enc := rowD) (β := List (List Int)) (γ := Sl × Sl) (fun acc c => [.dat (.int ((2 * h : Nat) : Int)), .dat (.int (t : Int)), .dat (.lst (found.map rowD)), .dat (.int (0 + (x : Nat))), .own (.lst (acc.map rowD)), c.1, c.2, .no]) (fun a row => a ++ rowsG t row) [] (c.2.2.1, c.2.2.2) rfl (fun pre row post hr c2 K2 hK2 => ?_) (fun c2 => ?_)
    · rw [foldA, List.nil_append] at hK2 ⊢
      have hp := flat_pre (f := rowsG t) hr
      have hrl := hlen row (by rw [hr]; simp)
      have hp2 : (found.flatMap (rowsG t)).length ≤ 10000 := hsz
      generalize pre.flatMap (rowsG t) = a2 at hK2 hp ⊢
      walk_at "rd"
      refine ⟨⟨by omega, by omega⟩, ?_⟩
      have e3 : ((t : Int) + 1 - 1).toNat = t := by omega
      rw [e3]
      refine forI_fold (xs := List.range t) (enc := fun i : Nat => D.int (1 + (i : Nat))) (β := List (List Int)) (γ := Sl) (fun acc c => [.dat (.int ((2 * h : Nat) : Int)), .dat (.int (t : Int)), .dat (.lst (found.map rowD)), .dat (.int (0 + (x : Nat))), .own (.lst (acc.map rowD)), .dat (rowD row), c, .no]) (fun a m => a ++ rowsH t row m) a2 c2.2 rfl (fun pre3 m post3 hm3 c3 K3 hK3 => ?_) (fun c3 => ?_)
      · rw [foldA] at hK3 ⊢
        have hp3 := flat_pre (f := rowsH t row) hm3
        have hp4 : ((List.range t).flatMap (rowsH t row)).length = (rowsG t row).length := rfl
        generalize hA3 : a2 ++ pre3.flatMap (rowsH t row) = a3 at hK3 ⊢
        have hl3 : a3.length = a2.length + (pre3.flatMap (rowsH t row)).length := by rw [← hA3, List.length_append]
        have hml : m < t := by
          have : m ∈ List.range t := by rw [hm3]; simp
          simpa using this
        walk_at "rd"
        refine ⟨⟨by omega, by omega⟩, ?_⟩
        rw [e3]
        refine lcI_of (xs := List.range t) (enc := fun i : Nat => D.int (1 + (i : Nat))) (fun w : Nat => if rowsC row m w then some (rowD (row ++ [(1 : Int) + (m : Nat), 1 + (w : Nat)])) else none) (by rw [List.length_range, sizeLine_eq]; show 0 + t ≤ _; omega) (fun w _ K4 hK4 => ?_) ?_
        · walk_at "rd"
          refine ⟨by decide, ⟨okD_row row, by decide⟩, ?_⟩
          rw [deq_row_nil]
          have fin : (row.map D.int ++ [D.int (1 + (m : Nat)), D.int (1 + (w : Nat))]).length ≤ sizeLine := by
            rw [List.length_append, List.length_map, sizeLine_eq, hrl]
            simp
            omega
          have fe : D.tup (row.map D.int ++ [D.int (1 + (m : Nat)), D.int (1 + (w : Nat))]) = rowD (row ++ [(1 : Int) + m, 1 + w]) := by rw [rowD, List.map_append]; rfl
          refine ifB_d (fun hr0 => ?_) (fun hr0 => ?_)
          · have hc : rowsC row m w = true := decide_eq_true (.inl hr0)
            rw [hc, if_pos rfl] at hK4
            refine ⟨fin, ?_⟩
            rw [fe]
            exact hK4
          · rcases snoc_cases row with z | ⟨r0, y, rfl⟩
            · exact absurd z hr0
            · have hat : atI (r0 ++ [y]) (-1) = some y := atI_last _ _
              rw [atI_map, hat]
              walk_at "rd"
              by_cases hy : y = 1 + (w : Nat)
              · have hc : rowsC (r0 ++ [y]) m w = false := decide_eq_false (by
                  rintro (z | z)
                  · exact hr0 z
                  · exact z (by rw [List.getLast?_concat, hy]))
                rw [hc, if_neg Bool.false_ne_true] at hK4
                refine ifB_F (by simp [hy]) ?_
                exact hK4
              · have hc : rowsC (r0 ++ [y]) m w = true := decide_eq_true (.inr (by rw [List.getLast?_concat]; intro z; exact hy (Option.some.inj z)))
                rw [hc, if_pos rfl] at hK4
                refine ifB_T (by simp [hy]) ?_
                refine ⟨fin, ?_⟩
                rw [fe]
                exact hK4
        · rw [filter_lc, List.nil_append]
          have eH : ((List.range t).filter (rowsC row m)).map (fun w : Nat => rowD (row ++ [(1 : Int) + (m : Nat), 1 + (w : Nat)])) = (rowsH t row m).map rowD := by unfold rowsH; rw [List.map_map]; rfl
          rw [eH]
          refine ⟨by rw [sizeLine_eq]; simp only [List.length_map]; omega, ?_⟩
          rw [← List.map_append]
          exact hK3 _
      · rw [foldA]
        exact hK2 (_, _)
    · rw [foldA, List.nil_append]
      exact hK (_, _, _, _)
abbrev st_age_by_backwards : Stmt := topS 41
theorem sc_age_by_backwards : FnScope ["row"] ["row"] (defScope st_age_by_backwards) := ⟨rfl, rfl, rfl, by decide +kernel, rfl, by decide +kernel, by decide +kernel⟩
set_option maxHeartbeats 4000000 in
theorem df_age_by_backwards (F : FunAt K mg "age_by_backwards" "age_by" st_age_by_backwards ["row"]) (T : Txt K mg) (D_elders_by : Df P w K mg base 3 "elders_by" sp_elders_by) : Df P w K mg base 4 "age_by_backwards" sp_age_by_backwards := by
  have sc := sc_age_by_backwards
  refine Df.of F sc_age_by_backwards _ (fun f cdv A outer s H E hr =>
    (pssd_one (psd_ret (pd_ifExp (ptd_in (hu65 hr) (pd_v 0).pb (pd_cst T.c_STILL (by rfl)).pb) pd_non (pd_len (by rfl) T.n_len (pab_cons (pd_call D_elders_by (hr.mono (by decide)) (by rfl) (pad_cons (pd_v 0) pad_nil)).pb pab_nil))))))
    ?_ ?_
  · rintro ds Q ⟨_, _, rfl, _⟩
    rfl
  · rintro ds Q ⟨r, es, rfl, h, q⟩
    walk_at "rd"
    refine ⟨⟨okD_row r, by decide⟩, ?_⟩
    show ifB (dIn (rowD r) (([[], [2, 2]] : List (List Int)).map rowD)) _ _
    rw [dIn_row]
    refine ifB_i (fun hb => ?_) (fun hb => ?_)
    · have e : ageD r es = .non := by unfold ageD stillB; rw [if_pos hb]
      rw [e] at q
      exact q
    · have e : ageD r es = .int es.length := by unfold ageD stillB; rw [if_neg (by rw [hb]; decide)]
      rw [e] at q
      rcases h with h | ⟨h1, h2⟩
      · unfold stillB at h; rw [hb] at h; cases h
      · refine ⟨r, es, rfl, h1, h2, ?_⟩
        walk_at "rd"
        exact q
abbrev st_is_aged : Stmt := topS 43
theorem sc_is_aged : FnScope ["row", "least", "age"] ["row", "least"] (defScope st_is_aged) := ⟨rfl, rfl, rfl, by decide +kernel, rfl, by decide +kernel, by decide +kernel⟩
set_option maxHeartbeats 4000000 in
theorem df_is_aged (F : FunAt K mg "is_aged" "is_aged" st_is_aged ["row", "least"]) (T : Txt K mg) (D_age_by_backwards : Df P w K mg base 4 "age_by_backwards" sp_age_by_backwards) : Df P w K mg base 5 "is_aged" sp_is_aged := by
  have sc := sc_is_aged
  refine Df.of F sc_is_aged _ (fun f cdv A outer s H E hr =>
    (pssd_cons (psd_set (i := 2) sc.nd rfl (.inl rfl) (pd_call D_age_by_backwards (hr.mono (by decide)) (by rfl) (pad_cons (pd_v 0) pad_nil)).pv)
    (pssd_one (psd_ret (pd_or (pd_is (pd_v 2).pb pd_non.pb).pb (pd_one (pd_ge (pd_v 2).pb (pd_v 1).pb)))))))
    ?_ ?_
  · rintro ds Q ⟨_, _, _, rfl, _⟩
    rfl
  · rintro ds Q ⟨r, es, n, rfl, he, q⟩
    refine ⟨r, es, rfl, he, ?_⟩
    walk_at "rd"
    unfold ageD
    cases hb : stillB r with
    | true => rw [hb] at q; exact q
    | false => rw [hb] at q; exact q
abbrev st_need_least : Stmt := topS 39
theorem sc_need_least : FnScope ["least"] ["least"] (defScope st_need_least) := ⟨rfl, rfl, rfl, by decide +kernel, rfl, by decide +kernel, by decide +kernel⟩
set_option maxHeartbeats 4000000 in
theorem df_need_least (F : FunAt K mg "need_least" "need_least" st_need_least ["least"]) (T : Txt K mg) (D_is_whole : Df P w K mg base 1 "is_whole" sp_is_whole) : Df P w K mg base 2 "need_least" sp_need_least := by
  have sc := sc_need_least
  refine Df.of F sc_need_least _ (fun f cdv A outer s H E hr =>
    (pssd_one (psd_if (pwd_or (ptd_not (ptd_val (pd_call D_is_whole (hr.mono (by decide)) (by rfl) (pad_cons (pd_v 0) pad_nil)).pb)) (pwd_or1 (ptd_not (ptd_chain op_le op_le v_ci v_ci pd_int.pb (pd_v 0).pb (pd_cst T.c_MOST_LEAST (by rfl)).pb)))).pt pssd_never pssd_nil)))
    ?_ ?_
  · rintro ds Q ⟨_, rfl, _⟩
    rfl
  · rintro ds Q ⟨n, rfl, h0, h60, q⟩
    walk_at "rd"
    refine ⟨n, rfl, ?_⟩
    walk_at "rd"
    rw [decide_eq_true h0, decide_eq_true h60]
    exact q
abbrev st_need_top : Stmt := topS 38
theorem sc_need_top : FnScope ["top"] ["top"] (defScope st_need_top) := ⟨rfl, rfl, rfl, by decide +kernel, rfl, by decide +kernel, by decide +kernel⟩
set_option maxHeartbeats 4000000 in
theorem df_need_top (F : FunAt K mg "need_top" "need_top" st_need_top ["top"]) (T : Txt K mg) (D_is_whole : Df P w K mg base 1 "is_whole" sp_is_whole) : Df P w K mg base 2 "need_top" sp_need_top := by
  have sc := sc_need_top
  refine Df.of F sc_need_top _ (fun f cdv A outer s H E hr =>
    (pssd_one (psd_if (pwd_or (ptd_not (ptd_val (pd_call D_is_whole (hr.mono (by decide)) (by rfl) (pad_cons (pd_v 0) pad_nil)).pb)) (pwd_or1 (ptd_not (ptd_chain op_le op_le v_ci v_ci pd_int.pb (pd_v 0).pb (pd_cst T.c_MOST_NUMBER (by rfl)).pb)))).pt pssd_never pssd_nil)))
    ?_ ?_
  · rintro ds Q ⟨_, rfl, _⟩
    rfl
  · rintro ds Q ⟨n, rfl, h0, h60, q⟩
    walk_at "rd"
    refine ⟨n, rfl, ?_⟩
    walk_at "rd"
    rw [decide_eq_true h0, decide_eq_true h60]
    exact q
abbrev st_need_length : Stmt := topS 40
theorem sc_need_length : FnScope ["length"] ["length"] (defScope st_need_length) := ⟨rfl, rfl, rfl, by decide +kernel, rfl, by decide +kernel, by decide +kernel⟩
set_option maxHeartbeats 4000000 in
theorem df_need_length (F : FunAt K mg "need_length" "need_length" st_need_length ["length"]) (T : Txt K mg) (D_is_whole : Df P w K mg base 1 "is_whole" sp_is_whole) : Df P w K mg base 2 "need_length" sp_need_length := by
  have sc := sc_need_length
  refine Df.of F sc_need_length _ (fun f cdv A outer s H E hr =>
    (pssd_one (psd_if (pwd_or (ptd_not (ptd_val (pd_call D_is_whole (hr.mono (by decide)) (by rfl) (pad_cons (pd_v 0) pad_nil)).pb)) (pwd_or1 (ptd_not (ptd_chain op_le op_le v_ci v_ci pd_int.pb (pd_v 0).pb (pd_cst T.c_MOST_NUMBERS (by rfl)).pb)))).pt pssd_never pssd_nil)))
    ?_ ?_
  · rintro ds Q ⟨_, rfl, _⟩
    rfl
  · rintro ds Q ⟨n, rfl, h0, h60, q⟩
    walk_at "rd"
    refine ⟨n, rfl, ?_⟩
    walk_at "rd"
    rw [decide_eq_true h0, decide_eq_true h60]
    exact q
abbrev st_aged_rows : Stmt := topS 48
theorem sc_aged_rows : FnScope ["length", "top", "least", "row"] ["length", "top", "least"] (defScope st_aged_rows) := ⟨rfl, rfl, rfl, by decide +kernel, rfl, by decide +kernel, by decide +kernel⟩
set_option maxHeartbeats 4000000 in
theorem df_aged_rows (F : FunAt K mg "aged_rows" "aged_rows" st_aged_rows ["length", "top", "least"]) (T : Txt K mg) (D_rows_by : Df P w K mg base 2 "rows_by" sp_rows_by) (D_is_aged : Df P w K mg base 5 "is_aged" sp_is_aged) (D_need_least : Df P w K mg base 2 "need_least" sp_need_least) (D_need_top : Df P w K mg base 2 "need_top" sp_need_top) (D_need_length : Df P w K mg base 2 "need_length" sp_need_length) : Df P w K mg base 6 "aged_rows" sp_aged_rows := by
  have sc := sc_aged_rows
  refine Df.of F sc_aged_rows _ (fun f cdv A outer s H E hr =>
    (pssd_cons (psd_expr (pd_call D_need_length (hr.mono (by decide)) (by rfl) (pad_cons (pd_v 0) pad_nil)).pb)
    (pssd_cons (psd_expr (pd_call D_need_top (hr.mono (by decide)) (by rfl) (pad_cons (pd_v 1) pad_nil)).pb)
    (pssd_cons (psd_expr (pd_call D_need_least (hr.mono (by decide)) (by rfl) (pad_cons (pd_v 2) pad_nil)).pb)
    (pssd_one (psd_ret (pd_tuple (by rfl) T.n_tuple (pab_cons (pf_lc (own := [("row", 3)]) rfl sc.nd (pid_seq (pd_call D_rows_by (hr.mono (by decide)) (by rfl) (pad_cons (pd_v 0) (pad_cons (pd_v 1) pad_nil)))) (blkOk_by (N := ["length", "top", "least", "row"]) (sc := defScope st_aged_rows) (by decide +kernel)) (fun _ _ _ _ _ => (pgd_name (i := 3) sc.nd rfl (.inl rfl))) (by decide) (fun _ _ _ _ _ => ptsd_one (ptd_val (pd_call D_is_aged (hr.mono (by decide)) (by rfl) (pad_cons (pd_v 3) (pad_cons (pd_v 2) pad_nil))).pb)) (fun _ _ _ _ _ => (pd_v 3))).pd.pb pab_nil))))))))
    ?_ ?_
  · rintro ds Q ⟨_, _, _, rfl, _⟩
    rfl
  · rintro ds Q ⟨h, t, n, rfl, h30, h1, h99, n1, n20, hm, hs, hok, q⟩
    refine ⟨_, rfl, by omega, by omega, _, rfl, by omega, by omega, n, rfl, n1, n20, h, t, rfl, h30, h1, h99, hm, hs, ?_⟩
    have hl := hs h (Nat.le_refl _)
    generalize rowsL h t = rs at hok hl q ⊢
    walk_at "rd"
    refine lcI_of (xs := rs) (enc := rowD) (fun r => if agedB n r then some (rowD r) else none) (by rw [sizeLine_eq]; show 0 + rs.length ≤ _; omega) (fun r hr K hK => ?_) ?_
    · walk_at "rd"
      refine ⟨r, esOf r, n, rfl, okRow_of (hok r hr), ?_⟩
      walk_at "rd"
      unfold agedB at hK
      refine ifB_i (fun hb => ?_) (fun hb => ?_)
      · rw [hb, if_pos rfl] at hK; exact hK
      · rw [hb, if_neg Bool.false_ne_true] at hK; exact hK
    · rw [List.nil_append, filter_lc]
      exact q
abbrev st_many_with_elder : Stmt := topS 47
theorem sc_many_with_elder : FnScope ["length", "top"] ["length", "top"] (defScope st_many_with_elder) := ⟨rfl, rfl, rfl, by decide +kernel, rfl, by decide +kernel, by decide +kernel⟩
set_option maxHeartbeats 4000000 in
theorem df_many_with_elder (F : FunAt K mg "many_with_elder" "many_with_elder" st_many_with_elder ["length", "top"]) (T : Txt K mg) (D_many_by_backwards : Df P w K mg base 1 "many_by_backwards" sp_many_by_backwards) (D_need_top : Df P w K mg base 2 "need_top" sp_need_top) (D_need_length : Df P w K mg base 2 "need_length" sp_need_length) : Df P w K mg base 3 "many_with_elder" sp_many_with_elder := by
  have sc := sc_many_with_elder
  refine Df.of F sc_many_with_elder _ (fun f cdv A outer s H E hr =>
    (pssd_cons (psd_expr (pd_call D_need_length (hr.mono (by decide)) (by rfl) (pad_cons (pd_v 0) pad_nil)).pb)
    (pssd_cons (psd_expr (pd_call D_need_top (hr.mono (by decide)) (by rfl) (pad_cons (pd_v 1) pad_nil)).pb)
    (pssd_one (psd_ret (pd_call D_many_by_backwards (hr.mono (by decide)) (by rfl) (pad_cons (pd_v 0) (pad_cons (pd_v 1) pad_nil))))))))
    ?_ ?_
  · rintro ds Q ⟨_, _, rfl, _⟩
    rfl
  · rintro ds Q ⟨n, t, rfl, h0, h60, h1, h99, q⟩
    exact ⟨n, rfl, h0, h60, t, rfl, h1, h99, n, t, rfl, h0, h60, h1, h99, q⟩
abbrev st__law_mixed : Stmt := topS 64
theorem sc__law_mixed : FnScope ["draw", "found", "cell"] ["draw"] (defScope st__law_mixed) := ⟨rfl, rfl, rfl, by decide +kernel, rfl, by decide +kernel, by decide +kernel⟩
set_option maxHeartbeats 4000000 in
theorem df__law_mixed (F : FunAt K mg "_law_mixed" "_law_mixed" st__law_mixed ["draw"]) (T : Txt K mg)  : Df P w K mg base 1 "_law_mixed" (sp__law_mixed P w) := by
  have sc := sc__law_mixed
  refine Df.of F sc__law_mixed _ (fun f cdv A outer s H E hr =>
    (pssd_cons (psd_drwPut P w 0 (.inr rfl) (hu1 hr) (pd_add (pd_drwG P w 0 (.inr rfl) (hu1 hr)).pb pd_int.pb))
    (pssd_cons (psd_set (i := 1) sc.nd rfl (.inl rfl) (pd_add pd_int.pb (pd_mul pd_int.pb (pd_drwG P w 0 (.inr rfl) (hu1 hr)).pb).pb).pv)
    (pssd_cons (psd_for PassesOwn.never rfl (pid_seq (pd_add (pd_drwC P w 0 (hu1 hr)).pb (pf_lst (pad_cons (pd_drwG P w 0 (.inr rfl) (hu1 hr)) pad_nil)).pd.pb)) (pgd_name (i := 2) sc.nd rfl (.inl rfl))
    (pssd_cons (psd_set (i := 1) sc.nd rfl (.inl rfl) (pd_mod (pd_toInt (by rfl) T.n_int (pab_cons (pd_mul (pd_add (pd_v 1).pb (pd_v 2).pb).pb pd_int.pb).pb pab_nil)).pb (pd_sub (pd_pow pd_int.pb pd_int.pb).pb pd_int.pb).pb).pv)
    (pssd_one (psd_set (i := 1) sc.nd rfl (.inl rfl) (pd_add (pd_v 1).pb (pd_fdiv (pd_v 1).pb (pd_pow pd_int.pb pd_int.pb).pb).pb).pv))))
    (pssd_one (psd_ret (pd_v 1)))))))
    ?_ ?_
  · rintro ds Q ⟨rfl, _⟩
    rfl
  · rintro ds Q ⟨rfl, q⟩
    walk_at "rd"
    intro n
    refine ⟨⟨_, rfl⟩, fun m => ⟨mulS_l (by decide), fun cs hcs k => ?_⟩⟩
    refine ⟨by rw [sizeLine_eq]; omega, by rw [sizeLine_eq]; omega, ?_⟩
    have e : cs.map D.int ++ [D.int k] = (cs ++ [k]).map D.int := by rw [List.map_append]; rfl
    rw [e]
    refine forI_inv (xs := cs ++ [k]) (enc := D.int) (γ := Unit) (fun _ sd => ∃ (n : Int) (c : Sl), sd = [.dat (drw P w), .dat (.int n), c]) ⟨_, _, rfl⟩ (fun pre x post sd hx ⟨n, c, hsd⟩ => ?_) (fun sd ⟨n, c, hsd⟩ => ?_)
    · subst hsd
      walk_at "rd"
      exact ⟨mulS_r (by decide), cp, by decide, cp, ⟨by decide, log_small (by decide)⟩, ⟨_, _, rfl⟩⟩
    · subst hsd
      exact q n
abbrev st__law_take : Stmt := topS 65
theorem sc__law_take : FnScope ["draw", "amount", "found"] ["draw", "amount"] (defScope st__law_take) := ⟨rfl, rfl, rfl, by decide +kernel, rfl, by decide +kernel, by decide +kernel⟩
set_option maxHeartbeats 4000000 in
theorem df__law_take (F : FunAt K mg "_law_take" "_law_take" st__law_take ["draw", "amount"]) (T : Txt K mg) (D__law_mixed : Df P w K mg base 1 "_law_mixed" (sp__law_mixed P w)) : Df P w K mg base 2 "_law_take" (sp__law_take P w) := by
  have sc := sc__law_take
  refine Df.of F sc__law_take _ (fun f cdv A outer s H E hr =>
    (pssd_cons (psd_if (ptd_lt (pd_v 1).pb pd_int.pb) (pssd_one (psd_ret pd_int)) pssd_nil)
    (pssd_cons (psd_if (ptd_gt (pd_drwG P w 0 (.inl rfl) (hu1 hr)).pb pd_int.pb) (pssd_cons (psd_set (i := 2) sc.nd rfl (.inl rfl) (pd_mod (pd_toInt (by rfl) T.n_int (pab_cons (pd_drwG P w 0 (.inl rfl) (hu1 hr)).pb pab_nil)).pb (pd_v 1).pb).pv)
    (pssd_cons (psd_drwPut P w 0 (.inl rfl) (hu1 hr) (pd_fdiv (pd_drwG P w 0 (.inl rfl) (hu1 hr)).pb (pd_v 1).pb))
    (pssd_one (psd_ret (pd_v 2))))) pssd_nil)
    (pssd_cons (psd_set (i := 2) sc.nd rfl (.inl rfl) (pd_call D__law_mixed (hr.mono (by decide)) (by rfl) (pad_cons (pd_v 0) pad_nil)).pv)
    (pssd_cons (psd_while PassesOwn.never (pwd_and (ptd_gt (pd_v 1).pb (pd_pow pd_int.pb pd_int.pb).pb) (pwd_and1 (ptd_lt (pd_v 2).pb (pd_mul (pd_v 1).pb (pd_v 1).pb).pb))).pt
    (pssd_one (psd_set (i := 2) sc.nd rfl (.inl rfl) (pd_add (pd_mul (pd_v 2).pb (pd_pow pd_int.pb pd_int.pb).pb).pb (pd_call D__law_mixed (hr.mono (by decide)) (by rfl) (pad_cons (pd_v 0) pad_nil)).pb).pv)))
    (pssd_one (psd_ret (pd_mod (pd_toInt (by rfl) T.n_int (pab_cons (pd_fdiv (pd_v 2).pb pd_int.pb).pb pab_nil)).pb (pd_v 1).pb))))))))
    ?_ ?_
  · rintro ds Q ⟨_, rfl, _⟩
    rfl
  · rintro ds Q ⟨n, rfl, hn, q⟩
    walk_at "rd"
    refine ifB_d (fun h => ?_) (fun h => ?_)
    · exact q 0 (by omega) (.inr rfl)
    · have fin : ∀ m : Int, Q (.int (m % n)) := fun m => q _ (Int.emod_nonneg _ (by omega)) (.inl (Int.emod_lt_of_pos _ (by omega)))
      have hlog : n.natAbs.log2 < 9000 := log_of (k := 51) (by omega) (by omega)
      intro m
      refine ifB_d (fun h2 => ?_) (fun h2 => ?_)
      · exact fun m2 => ⟨by omega, fun m3 => ⟨⟨by omega, hlog⟩, ⟨_, rfl⟩, fin _⟩⟩
      · refine ⟨rfl, fun m => ?_⟩
        refine while_st (β := Unit) (γ := Unit) (fun _ _ => [.dat (drw P w), .dat (.int n), .dat (.int m)]) (fun _ => True) (fun _ => 0) () () rfl trivial (fun _ _ _ => ?_)
        walk_at "rd"
        intro _ _
        refine ⟨cp, ifB_F (decide_eq_false (by
          have : (2 : Int) ^ (50 : Int).toNat = 1125899906842624 := by decide
          rw [this]; omega)) ?_⟩
        exact ⟨⟨by decide, log_small (by decide)⟩, by omega, fin _⟩
abbrev st_elders : Stmt := topS 33
theorem sc_elders : FnScope ["row"] ["row"] (defScope st_elders) := ⟨rfl, rfl, rfl, by decide +kernel, rfl, by decide +kernel, by decide +kernel⟩
set_option maxHeartbeats 4000000 in
theorem df_elders (F : FunAt K mg "elders" "elders" st_elders ["row"]) (T : Txt K mg) (D_elders_by : Df P w K mg base 3 "elders_by" sp_elders_by) (D_need_row : Df P w K mg base 3 "need_row" sp_need_row) : Df P w K mg base 4 "elders" sp_elders := by
  have sc := sc_elders
  refine Df.of F sc_elders _ (fun f cdv A outer s H E hr =>
    (pssd_cons (psd_expr (pd_call D_need_row (hr.mono (by decide)) (by rfl) (pad_cons (pd_v 0) (pad_cons pd_str pad_nil))).pb)
    (pssd_cons (psd_if (ptd_in (hu65 hr) (pd_v 0).pb (pd_cst T.c_STILL (by rfl)).pb) pssd_never pssd_nil)
    (pssd_one (psd_ret (pd_tuple (by rfl) T.n_tuple (pab_cons (pd_call D_elders_by (hr.mono (by decide)) (by rfl) (pad_cons (pd_v 0) pad_nil)).pb pab_nil)))))))
    ?_ ?_
  · rintro ds Q ⟨_, _, rfl, _⟩
    rfl
  · rintro ds Q ⟨r, es, rfl, h, hs, he, hc, q⟩
    refine ⟨r, _, rfl, h, ?_⟩
    walk_at "rd"
    refine ⟨⟨okD_row r, by decide⟩, ?_⟩
    show ifB (dIn (rowD r) (([[], [2, 2]] : List (List Int)).map rowD)) _ _
    rw [dIn_row]
    unfold stillB at hs
    rw [hs]
    exact ⟨r, es, rfl, he, hc, q⟩
abbrev st_short_row : Stmt := topS 21
theorem sc_short_row : FnScope ["row"] ["row"] (defScope st_short_row) := ⟨rfl, rfl, rfl, by decide +kernel, rfl, by decide +kernel, by decide +kernel⟩
set_option maxHeartbeats 4000000 in
theorem df_short_row (F : FunAt K mg "short_row" "short_row" st_short_row ["row"]) (T : Txt K mg)  : Df P w K mg base 1 "short_row" sp_short_row := by
  have sc := sc_short_row
  refine Df.of F sc_short_row _ (fun f cdv A outer s H E hr =>
    (pssd_cons (psd_if (ptd_gt (pd_len (by rfl) T.n_len (pab_cons (pd_v 0).pb pab_nil)).pb (pd_cst T.c_MOST_LONG (by rfl)).pb) pssd_never pssd_nil)
    (pssd_one (psd_ret (pd_v 0)))))
    ?_ ?_
  · rintro ds Q ⟨_, rfl, _⟩
    rfl
  · rintro ds Q ⟨r, rfl, hl, q⟩
    walk_at "rd"
    exact ifB_F (decide_eq_false (by omega)) q
abbrev st_runs_by : Stmt := topS 19
theorem sc_runs_by : FnScope ["row", "found", "number"] ["row"] (defScope st_runs_by) := ⟨rfl, rfl, rfl, by decide +kernel, rfl, by decide +kernel, by decide +kernel⟩
set_option maxHeartbeats 4000000 in
theorem df_runs_by (F : FunAt K mg "runs_by" "runs_by" st_runs_by ["row"]) (T : Txt K mg)  : Df P w K mg base 1 "runs_by" sp_runs_by := by
  have sc := sc_runs_by
  refine Df.of F sc_runs_by _ (fun f cdv A outer s H E hr =>
    (pssd_cons (psd_set (i := 1) sc.nd rfl (.inl rfl) (pf_lst pad_nil).pv)
    (pssd_cons (psd_for PassesOwn.never rfl (pid_seq (pd_v 0)) (pgd_name (i := 2) sc.nd rfl (.inl rfl))
    (pssd_one (psd_if (pwd_and (ptd_ne hr.units (pb_v 1) (pf_lst pad_nil).pd.pb) (pwd_and1 (ptd_eq hr.units (pd_ix (pd_ix (pb_v 1) (pd_neg pd_int.pb).pb).pb pd_int.pb).pb (pd_v 2).pb))).pt (pssd_one (psd_seti 1 (pd_neg pd_int.pb) (pd_tup (pad_cons (pd_add (pd_ix (pd_ix (pb_v 1) (pd_neg pd_int.pb).pb).pb pd_int.pb).pb pd_int.pb) (pad_cons (pd_v 2) pad_nil))))) (pssd_one (psd_app 1 (pd_tup (pad_cons pd_int (pad_cons (pd_v 2) pad_nil))))))))
    (pssd_one (psd_frz 1 (psd_ret (pd_v 1)))))))
    ?_ ?_
  · rintro ds Q ⟨_, rfl, _⟩
    rfl
  · rintro ds Q ⟨r, rfl, hl, q⟩
    walk_at "rd"
    refine ⟨by decide, ?_⟩
    refine forI_fold (xs := r) (enc := D.int) (β := List (Int × Int)) (fun acc (c : Sl) => [.dat (rowD r), .own (.lst (acc.map pairD)), c]) runsStep [] Sl.no rfl (fun pre x post hx c K hK => ?_) (fun c => q)
    have hb := runs_len pre
    have hlt : pre.length + 1 ≤ r.length := by rw [hx]; simp
    generalize hacc : List.foldl runsStep [] pre = acc at hK ⊢
    have hb' : acc.length ≤ pre.length := by rw [← hacc]; exact hb
    walk_at "rd"
    refine ⟨by decide, ⟨okD_pairs _, rfl⟩, ?_⟩
    rcases snoc_cases acc with rfl | ⟨a, p, rfl⟩
    · exact ⟨by decide, by decide, hK _⟩
    · have hne : deq (.lst ((a ++ [p]).map pairD)) (.lst []) = false := by cases a <;> rfl
      have hat : atI (a ++ [p]) (-1) = some p := atI_last _ _
      have hs : runsStep (a ++ [p]) x = if p.2 = x then a ++ [(p.1 + 1, x)] else a ++ [p] ++ [(1, x)] := by
        unfold runsStep
        rw [List.getLast?_concat]
        show (if p.2 = x then (a ++ [p]).dropLast ++ [(p.1 + 1, x)] else a ++ [p] ++ [(1, x)]) = _
        rw [List.dropLast_concat]
      rw [hs] at hK
      have h0 : atI [D.int p.1, D.int p.2] 0 = some (.int p.1) := rfl
      have h1 : atI [D.int p.1, D.int p.2] 1 = some (.int p.2) := rfl
      simp only [hne, atI_map, hat]
      walk_at "rd"
      simp only [pairD, h0, h1]
      walk_at "rd"
      by_cases e : p.2 = x
      · refine ifB_T (by simpa using e) ?_
        rw [if_pos e] at hK
        refine ⟨by decide, ?_⟩
        rw [ixN_last (by simp)]
        walk_at "rd"
        have := hK (.dat (.int x))
        have e2 := snoc_set (a.map pairD) (pairD p) (pairD (p.1 + 1, x))
        rw [List.length_append, List.length_map] at e2
        rw [List.map_append, List.length_append]
        simp only [List.map_append, List.map_cons, List.map_nil] at this
        rw [← e2] at this
        exact this
      · refine ifB_F (by simpa using e) ?_
        rw [if_neg e] at hK
        refine ⟨by decide, by rw [sizeLine_eq]; omega, ?_⟩
        have := hK (.dat (.int x))
        rw [List.map_append (l₁ := a ++ [p])] at this
        exact this
abbrev st_said_by : Stmt := topS 20
theorem sc_said_by : FnScope ["row", "run", "number"] ["row"] (defScope st_said_by) := ⟨rfl, rfl, rfl, by decide +kernel, rfl, by decide +kernel, by decide +kernel⟩
set_option maxHeartbeats 4000000 in
theorem df_said_by (F : FunAt K mg "said_by" "said_by" st_said_by ["row"]) (T : Txt K mg) (D_runs_by : Df P w K mg base 1 "runs_by" sp_runs_by) : Df P w K mg base 2 "said_by" sp_said_by := by
  have sc := sc_said_by
  refine Df.of F sc_said_by _ (fun f cdv A outer s H E hr =>
    (pssd_one (psd_ret (pd_tuple (by rfl) T.n_tuple (pab_cons (pf_lc2 (own := [("run", 1), ("number", 2)]) (vs1 := [2]) rfl sc.nd (pid_seq (pd_call D_runs_by (hr.mono (by decide)) (by rfl) (pad_cons (pd_v 0) pad_nil))) (blkOk_by (N := ["row", "run", "number"]) (sc := defScope st_said_by) (by decide +kernel)) (by decide) (fun _ _ _ _ _ => (pgd_name (i := 1) sc.nd rfl (.inl rfl))) (by decide) (fun _ _ _ _ _ => ptsd_nil) (fun _ _ _ _ _ => (pid_seq (pd_v 1))) (fun _ _ _ _ _ => (pgd_name (i := 2) sc.nd rfl (.inl rfl))) (by decide) (fun _ _ _ _ _ => ptsd_nil) (fun _ _ _ _ _ => (pd_v 2))).pd.pb pab_nil)))))
    ?_ ?_
  · rintro ds Q ⟨_, rfl, _⟩
    rfl
  · rintro ds Q ⟨r, rfl, hl, q⟩
    refine ⟨r, rfl, hl, ?_⟩
    have hr := runs_len r
    refine lc2I_of (xs := runsL r) (enc := pairD) (fun p => [.int p.1, .int p.2]) ?_ (fun p _ acc K hz hK => ?_) ?_
    · have : ((runsL r).flatMap fun p => [D.int p.1, D.int p.2]).length = 2 * (runsL r).length := by
        induction (runsL r) with
        | nil => rfl
        | cons a b ih => simp at ih ⊢; omega
      rw [this, sizeLine_eq]; omega
    · exact lcI_map (xs := [p.1, p.2]) (enc := D.int) D.int hz (fun x _ K hK => hK) hK
    · have e : (runsL r).flatMap (fun p => [D.int p.1, D.int p.2]) = (say r).map D.int := by
        unfold say
        rw [List.map_flatMap]; rfl
      rw [e]
      exact q
abbrev st_days_by : Stmt := topS 22
theorem sc_days_by : FnScope ["row", "days", "found", "lap"] ["row", "days"] (defScope st_days_by) := ⟨rfl, rfl, rfl, by decide +kernel, rfl, by decide +kernel, by decide +kernel⟩
set_option maxHeartbeats 4000000 in
theorem df_days_by (F : FunAt K mg "days_by" "days_by" st_days_by ["row", "days"]) (T : Txt K mg) (D_short_row : Df P w K mg base 1 "short_row" sp_short_row) (D_said_by : Df P w K mg base 2 "said_by" sp_said_by) : Df P w K mg base 3 "days_by" sp_days_by := by
  have sc := sc_days_by
  refine Df.of F sc_days_by _ (fun f cdv A outer s H E hr =>
    (pssd_cons (psd_set (i := 2) sc.nd rfl (.inl rfl) (pf_lst (pad_cons (pd_v 0) pad_nil)).pv)
    (pssd_cons (psd_for PassesOwn.never rfl (pid_rng1 (by rfl) T.n_range (pd_v 1)) (pgd_name (i := 3) sc.nd rfl (.inl rfl))
    (pssd_one (psd_app 2 (pd_call D_short_row (hr.mono (by decide)) (by rfl) (pad_cons (pd_call D_said_by (hr.mono (by decide)) (by rfl) (pad_cons (pd_ix (pb_v 2) (pd_neg pd_int.pb).pb) pad_nil)) pad_nil)))))
    (pssd_one (psd_frz 2 (psd_ret (pd_v 2)))))))
    ?_ ?_
  · rintro ds Q ⟨_, _, rfl, _⟩
    rfl
  · rintro ds Q ⟨r, n, rfl, h0, h60, hl, hs, q⟩
    walk_at "rd"
    refine ⟨by decide, ⟨by omega, by omega⟩, ?_⟩
    refine forI_fold (xs := List.range n.toNat) (enc := fun i : Nat => D.int (0 + (i : Nat))) (β := List (List Int)) (fun acc (c : Sl) => [.dat (rowD r), .dat (.int n), .own (.lst (acc.map rowD)), c]) (fun acc i => acc ++ [say (acc.getLastD [])]) [r] Sl.no rfl (fun pre x post hx c K hK => ?_) (fun c => ?_)
    · have hpre : pre = List.range pre.length := by
        have := congrArg (List.take pre.length) hx
        rw [List.take_left] at this
        rw [← this, List.take_range, List.length_range]
      have hlen : pre.length < n.toNat := by
        have := congrArg List.length hx
        simp at this
        omega
      have hacc : pre.foldl (fun acc _ => acc ++ [say (acc.getLastD [])]) [r] = daysL r pre.length := by
        rw [hpre, List.length_range]; exact days_fold r _
      rw [hacc] at hK ⊢
      have hlast : daysL r pre.length = ((List.range pre.length).map fun k => sayN k r) ++ [sayN pre.length r] := by
        unfold daysL
        rw [List.range_succ, List.map_append]; rfl
      have hat : atI (daysL r pre.length) (-1) = some (sayN pre.length r) := by rw [hlast]; exact atI_last _ _
      walk_at "rd"
      simp only [atI_map, hat]
      walk_at "rd"
      have h1 := hs pre.length (by omega)
      have h2 := hs (pre.length + 1) (by omega)
      refine ⟨_, rfl, by omega, say (sayN pre.length r), rfl, h2, ?_⟩
      refine ⟨by rw [sizeLine_eq]; unfold daysL; simp; omega, ?_⟩
      have := hK (.dat (.int (0 + (x : Nat))))
      have hgl : (daysL r pre.length).getLastD [] = sayN pre.length r := by rw [hlast]; simp
      rw [hgl, List.map_append] at this
      exact this
    · rw [days_fold]
      exact q
abbrev st_need_days : Stmt := topS 23
theorem sc_need_days : FnScope ["days"] ["days"] (defScope st_need_days) := ⟨rfl, rfl, rfl, by decide +kernel, rfl, by decide +kernel, by decide +kernel⟩
set_option maxHeartbeats 4000000 in
theorem df_need_days (F : FunAt K mg "need_days" "need_days" st_need_days ["days"]) (T : Txt K mg) (D_is_whole : Df P w K mg base 1 "is_whole" sp_is_whole) : Df P w K mg base 2 "need_days" sp_need_days := by
  have sc := sc_need_days
  refine Df.of F sc_need_days _ (fun f cdv A outer s H E hr =>
    (pssd_one (psd_if (pwd_or (ptd_not (ptd_val (pd_call D_is_whole (hr.mono (by decide)) (by rfl) (pad_cons (pd_v 0) pad_nil)).pb)) (pwd_or1 (ptd_not (ptd_chain op_le op_le v_ci v_ci pd_int.pb (pd_v 0).pb (pd_cst T.c_MOST_DAYS (by rfl)).pb)))).pt pssd_never pssd_nil)))
    ?_ ?_
  · rintro ds Q ⟨_, rfl, _⟩
    rfl
  · rintro ds Q ⟨n, rfl, h0, h60, q⟩
    walk_at "rd"
    refine ⟨n, rfl, ?_⟩
    walk_at "rd"
    rw [decide_eq_true h0, decide_eq_true h60]
    exact q
abbrev st_said_often : Stmt := topS 24
theorem sc_said_often : FnScope ["row", "days"] ["row", "days"] (defScope st_said_often) := ⟨rfl, rfl, rfl, by decide +kernel, rfl, by decide +kernel, by decide +kernel⟩
set_option maxHeartbeats 4000000 in
theorem df_said_often (F : FunAt K mg "said_often" "said_often" st_said_often ["row", "days"]) (T : Txt K mg) (D_days_by : Df P w K mg base 3 "days_by" sp_days_by) (D_need_days : Df P w K mg base 2 "need_days" sp_need_days) (D_need_row : Df P w K mg base 3 "need_row" sp_need_row) : Df P w K mg base 4 "said_often" sp_said_often := by
  have sc := sc_said_often
  refine Df.of F sc_said_often _ (fun f cdv A outer s H E hr =>
    (pssd_cons (psd_expr (pd_call D_need_row (hr.mono (by decide)) (by rfl) (pad_cons (pd_v 0) (pad_cons pd_str pad_nil))).pb)
    (pssd_cons (psd_expr (pd_call D_need_days (hr.mono (by decide)) (by rfl) (pad_cons (pd_v 1) pad_nil)).pb)
    (pssd_one (psd_ret (pd_ix (pd_call D_days_by (hr.mono (by decide)) (by rfl) (pad_cons (pd_v 0) (pad_cons (pd_v 1) pad_nil))).pb (pd_neg pd_int.pb).pb))))))
    ?_ ?_
  · rintro ds Q ⟨_, _, rfl, _⟩
    rfl
  · rintro ds Q ⟨r, n, rfl, hr, h0, h60, hs, q⟩
    refine ⟨r, _, rfl, hr, n, rfl, h0, h60, r, n, rfl, h0, h60, hs 0 h0, hs, ?_⟩
    have hlast : daysL r n.toNat = ((List.range n.toNat).map fun k => sayN k r) ++ [sayN n.toNat r] := by
      unfold daysL
      rw [List.range_succ, List.map_append]; rfl
    have hat : atI (daysL r n.toNat) (-1) = some (sayN n.toNat r) := by rw [hlast]; exact atI_last _ _
    walk_at "rd"
    simp only [atI_map, hat]
    walk_at "rd"
    exact q
abbrev st__law_pick : Stmt := topS 66
theorem sc__law_pick : FnScope ["draw", "items"] ["draw", "items"] (defScope st__law_pick) := ⟨rfl, rfl, rfl, by decide +kernel, rfl, by decide +kernel, by decide +kernel⟩
set_option maxHeartbeats 4000000 in
theorem df__law_pick (F : FunAt K mg "_law_pick" "_law_pick" st__law_pick ["draw", "items"]) (T : Txt K mg) (D__law_take : Df P w K mg base 2 "_law_take" (sp__law_take P w)) : Df P w K mg base 3 "_law_pick" (sp__law_pick P w) := by
  have sc := sc__law_pick
  refine Df.of F sc__law_pick _ (fun f cdv A outer s H E hr =>
    (pssd_one (psd_ret (pd_ix (pd_v 1).pb (pd_call D__law_take (hr.mono (by decide)) (by rfl) (pad_cons (pd_v 0) (pad_cons (pd_len (by rfl) T.n_len (pab_cons (pd_v 1).pb pab_nil)) pad_nil))).pb))))
    ?_ ?_
  · rintro ds Q ⟨_, rfl | rfl, _⟩ <;> rfl
  · have key : ∀ (xs : List D) (Q : D → Prop), xs ≠ [] → (∀ x ∈ xs, Q x) → ∀ k : Int, 0 ≤ k → (k < xs.length ∨ k = 0) → optQ (atI xs k) Q := fun xs Q h1 q k hk hk2 => by
      have h0 : 0 < xs.length := List.length_pos_iff.mpr h1
      have hlt : k.toNat < xs.length := by omega
      have e : k = (k.toNat : Int) := by omega
      rw [e, atI_nat (List.getElem?_eq_getElem hlt)]
      exact q _ (List.getElem_mem hlt)
    rintro ds Q ⟨xs, rfl | rfl, h1, h2, q⟩
    · walk_at "rd"
      rw [sizeLine_eq] at h2
      refine ⟨_, rfl, by omega, fun k hk hk2 => ?_⟩
      exact key xs Q h1 q k hk hk2
    · walk_at "rd"
      rw [sizeLine_eq] at h2
      refine ⟨_, rfl, by omega, fun k hk hk2 => ?_⟩
      exact key xs Q h1 q k hk hk2
abbrev st__law_runs : Stmt := topS 69
theorem sc__law_runs : FnScope ["row", "found", "number"] ["row"] (defScope st__law_runs) := ⟨rfl, rfl, rfl, by decide +kernel, rfl, by decide +kernel, by decide +kernel⟩
set_option maxHeartbeats 4000000 in
theorem df__law_runs (F : FunAt K mg "_law_runs" "_law_runs" st__law_runs ["row"]) (T : Txt K mg)  : Df P w K mg base 1 "_law_runs" sp__law_runs := by
  have sc := sc__law_runs
  refine Df.of F sc__law_runs _ (fun f cdv A outer s H E hr =>
    (pssd_cons (psd_set (i := 1) sc.nd rfl (.inl rfl) (pf_lst pad_nil).pv)
    (pssd_cons (psd_for PassesOwn.never rfl (pid_seq (pd_v 0)) (pgd_name (i := 2) sc.nd rfl (.inl rfl))
    (pssd_one (psd_if (pwd_and (ptd_ne hr.units (pb_v 1) (pf_lst pad_nil).pd.pb) (pwd_and1 (ptd_eq hr.units (pd_ix (pd_ix (pb_v 1) (pd_neg pd_int.pb).pb).pb pd_int.pb).pb (pd_v 2).pb))).pt (pssd_one (psd_seti 1 (pd_neg pd_int.pb) (pd_tup (pad_cons (pd_add (pd_ix (pd_ix (pb_v 1) (pd_neg pd_int.pb).pb).pb pd_int.pb).pb pd_int.pb) (pad_cons (pd_v 2) pad_nil))))) (pssd_one (psd_app 1 (pd_tup (pad_cons pd_int (pad_cons (pd_v 2) pad_nil))))))))
    (pssd_one (psd_frz 1 (psd_ret (pd_v 1)))))))
    ?_ ?_
  · rintro ds Q ⟨_, rfl, _⟩
    rfl
  · rintro ds Q ⟨r, rfl, hl, q⟩
    walk_at "rd"
    refine ⟨by decide, ?_⟩
    refine forI_fold (xs := r) (enc := D.int) (β := List (Int × Int)) (fun acc (c : Sl) => [.dat (rowD r), .own (.lst (acc.map pairD)), c]) runsStep [] Sl.no rfl (fun pre x post hx c K hK => ?_) (fun c => q)
    have hb := runs_len pre
    have hlt : pre.length + 1 ≤ r.length := by rw [hx]; simp
    generalize hacc : List.foldl runsStep [] pre = acc at hK ⊢
    have hb' : acc.length ≤ pre.length := by rw [← hacc]; exact hb
    walk_at "rd"
    refine ⟨by decide, ⟨okD_pairs _, rfl⟩, ?_⟩
    rcases snoc_cases acc with rfl | ⟨a, p, rfl⟩
    · exact ⟨by decide, by decide, hK _⟩
    · have hne : deq (.lst ((a ++ [p]).map pairD)) (.lst []) = false := by cases a <;> rfl
      have hat : atI (a ++ [p]) (-1) = some p := atI_last _ _
      have hs : runsStep (a ++ [p]) x = if p.2 = x then a ++ [(p.1 + 1, x)] else a ++ [p] ++ [(1, x)] := by
        unfold runsStep
        rw [List.getLast?_concat]
        show (if p.2 = x then (a ++ [p]).dropLast ++ [(p.1 + 1, x)] else a ++ [p] ++ [(1, x)]) = _
        rw [List.dropLast_concat]
      rw [hs] at hK
      have h0 : atI [D.int p.1, D.int p.2] 0 = some (.int p.1) := rfl
      have h1 : atI [D.int p.1, D.int p.2] 1 = some (.int p.2) := rfl
      simp only [hne, atI_map, hat]
      walk_at "rd"
      simp only [pairD, h0, h1]
      walk_at "rd"
      by_cases e : p.2 = x
      · refine ifB_T (by simpa using e) ?_
        rw [if_pos e] at hK
        refine ⟨by decide, ?_⟩
        rw [ixN_last (by simp)]
        walk_at "rd"
        have := hK (.dat (.int x))
        have e2 := snoc_set (a.map pairD) (pairD p) (pairD (p.1 + 1, x))
        rw [List.length_append, List.length_map] at e2
        rw [List.map_append, List.length_append]
        simp only [List.map_append, List.map_cons, List.map_nil] at this
        rw [← e2] at this
        exact this
      · refine ifB_F (by simpa using e) ?_
        rw [if_neg e] at hK
        refine ⟨by decide, by rw [sizeLine_eq]; omega, ?_⟩
        have := hK (.dat (.int x))
        rw [List.map_append (l₁ := a ++ [p])] at this
        exact this
abbrev st__law_said : Stmt := topS 70
theorem sc__law_said : FnScope ["row", "run"] ["row"] (defScope st__law_said) := ⟨rfl, rfl, rfl, by decide +kernel, rfl, by decide +kernel, by decide +kernel⟩
set_option maxHeartbeats 4000000 in
theorem df__law_said (F : FunAt K mg "_law_said" "_law_said" st__law_said ["row"]) (T : Txt K mg) (D__law_runs : Df P w K mg base 1 "_law_runs" sp__law_runs) : Df P w K mg base 2 "_law_said" sp__law_said := by
  have sc := sc__law_said
  refine Df.of F sc__law_said _ (fun f cdv A outer s H E hr =>
    (pssd_one (psd_ret (pd_tuple (by rfl) T.n_tuple (pab_cons (pd_sumL rfl (by rfl) T.n_sum (pad_cons (pf_lc (own := [("run", 1)]) rfl sc.nd (pid_seq (pd_call D__law_runs (hr.mono (by decide)) (by rfl) (pad_cons (pd_v 0) pad_nil))) (blkOk_by (N := ["row", "run"]) (sc := defScope st__law_said) (by decide +kernel)) (fun _ _ _ _ _ => (pgd_name (i := 1) sc.nd rfl (.inl rfl))) (by decide) (fun _ _ _ _ _ => ptsd_nil) (fun _ _ _ _ _ => (pf_list (by rfl) T.n_list (pab_cons (pd_v 1).pb pab_nil)).pd)).pd (pad_cons (pf_lst pad_nil).pd pad_nil))).pb pab_nil)))))
    ?_ ?_
  · rintro ds Q ⟨_, rfl, _⟩
    rfl
  · rintro ds Q ⟨r, rfl, hl, q⟩
    have hr := runs_len r
    refine ⟨r, rfl, hl, ?_⟩
    refine lcI_map (xs := runsL r) (enc := pairD) (fun p => .lst [.int p.1, .int p.2]) (by rw [sizeLine_eq]; show 0 + _ ≤ _; omega) (fun p _ K hK => hK) ?_
    refine ⟨by decide, ?_⟩
    have e1 : (runsL r).map (fun p => D.lst [.int p.1, .int p.2]) = ((runsL r).map fun p => [D.int p.1, D.int p.2]).map D.lst := by rw [List.map_map]; rfl
    have e2 : ((runsL r).map fun p => [D.int p.1, D.int p.2]).flatten = (say r).map D.int := by
      unfold say
      rw [List.map_flatMap, List.flatMap_def]; rfl
    show vSumL [.lst ([] ++ (runsL r).map (fun p => D.lst [.int p.1, .int p.2])), .lst []] (fun d => vTup [d] Q)
    rw [List.nil_append, e1]
    refine vSumL_mk ?_ ?_
    · rw [e2, List.length_map, say_len_eq, sizeLine_eq]; show 0 + _ ≤ _; omega
    · rw [e2]; exact q
abbrev st__law_days : Stmt := topS 71
theorem sc__law_days : FnScope ["row", "days", "found", "lap"] ["row", "days"] (defScope st__law_days) := ⟨rfl, rfl, rfl, by decide +kernel, rfl, by decide +kernel, by decide +kernel⟩
set_option maxHeartbeats 4000000 in
theorem df__law_days (F : FunAt K mg "_law_days" "_law_days" st__law_days ["row", "days"]) (T : Txt K mg) (D__law_said : Df P w K mg base 2 "_law_said" sp__law_said) : Df P w K mg base 3 "_law_days" sp__law_days := by
  have sc := sc__law_days
  refine Df.of F sc__law_days _ (fun f cdv A outer s H E hr =>
    (pssd_cons (psd_set (i := 2) sc.nd rfl (.inl rfl) (pf_lst (pad_cons (pd_tuple (by rfl) T.n_tuple (pab_cons (pd_v 0).pb pab_nil)) pad_nil)).pv)
    (pssd_cons (psd_for PassesOwn.never rfl (pid_rng1 (by rfl) T.n_range (pd_v 1)) (pgd_name (i := 3) sc.nd rfl (.inl rfl))
    (pssd_one (psd_app 2 (pd_call D__law_said (hr.mono (by decide)) (by rfl) (pad_cons (pd_ix (pb_v 2) (pd_neg pd_int.pb).pb) pad_nil)))))
    (pssd_one (psd_frz 2 (psd_ret (pd_v 2)))))))
    ?_ ?_
  · rintro ds Q ⟨_, _, rfl, _⟩
    rfl
  · rintro ds Q ⟨r, n, rfl, h0, h60, hs, q⟩
    walk_at "rd"
    refine ⟨by decide, ⟨by omega, by omega⟩, ?_⟩
    refine forI_fold (xs := List.range n.toNat) (enc := fun i : Nat => D.int (0 + (i : Nat))) (β := List (List Int)) (fun acc (c : Sl) => [.dat (rowD r), .dat (.int n), .own (.lst (acc.map rowD)), c]) (fun acc i => acc ++ [say (acc.getLastD [])]) [r] Sl.no rfl (fun pre x post hx c K hK => ?_) (fun c => ?_)
    · have hpre : pre = List.range pre.length := by
        have := congrArg (List.take pre.length) hx
        rw [List.take_left] at this
        rw [← this, List.take_range, List.length_range]
      have hlen : pre.length < n.toNat := by
        have := congrArg List.length hx
        simp at this
        omega
      have hacc : pre.foldl (fun acc _ => acc ++ [say (acc.getLastD [])]) [r] = daysL r pre.length := by
        rw [hpre, List.length_range]; exact days_fold r _
      rw [hacc] at hK ⊢
      have hlast : daysL r pre.length = ((List.range pre.length).map fun k => sayN k r) ++ [sayN pre.length r] := by
        unfold daysL
        rw [List.range_succ, List.map_append]; rfl
      have hat : atI (daysL r pre.length) (-1) = some (sayN pre.length r) := by rw [hlast]; exact atI_last _ _
      walk_at "rd"
      simp only [atI_map, hat]
      walk_at "rd"
      have h1 := hs pre.length (by omega)
      have h2 := hs (pre.length + 1) (by omega)
      refine ⟨_, rfl, by omega, ?_⟩
      refine ⟨by rw [sizeLine_eq]; unfold daysL; simp; omega, ?_⟩
      have := hK (.dat (.int (0 + (x : Nat))))
      have hgl : (daysL r pre.length).getLastD [] = sayN pre.length r := by rw [hlast]; simp
      rw [hgl, List.map_append] at this
      exact this
    · rw [days_fold]
      exact q
abbrev st__law_row : Stmt := topS 72
theorem sc__law_row : FnScope ["draw", "most", "way", "many", "small", "days", "found", "day", "lap"] ["draw", "most"] (defScope st__law_row) := ⟨rfl, rfl, rfl, by decide +kernel, rfl, by decide +kernel, by decide +kernel⟩
set_option maxHeartbeats 4000000 in
theorem df__law_row (F : FunAt K mg "_law_row" "_law_row" st__law_row ["draw", "most"]) (T : Txt K mg) (D__law_take : Df P w K mg base 2 "_law_take" (sp__law_take P w)) (D__law_pick : Df P w K mg base 3 "_law_pick" (sp__law_pick P w)) (D__law_days : Df P w K mg base 3 "_law_days" sp__law_days) : Df P w K mg base 4 "_law_row" (sp__law_row P w) := by
  have sc := sc__law_row
  refine Df.of F sc__law_row _ (fun f cdv A outer s H E hr =>
    (pssd_cons (psd_par (i := 2) (j := 3) rfl sc.nd rfl rfl (by decide) rfl rfl (pd_call D__law_take (hr.mono (by decide)) (by rfl) (pad_cons (pd_v 0) (pad_cons pd_int pad_nil))).pv (pd_add pd_int.pb (pd_call D__law_take (hr.mono (by decide)) (by rfl) (pad_cons (pd_v 0) (pad_cons (pd_v 1) pad_nil))).pb).pv (by rfl))
    (pssd_cons (psd_if (ptd_eq hr.units (pd_v 2).pb pd_int.pb) (pssd_cons (psd_set (i := 4) sc.nd rfl (.inl rfl) (pd_tuple (by rfl) T.n_tuple (pab_cons (pf_lc (own := [("lap", 8)]) rfl sc.nd (pid_rng1 (by rfl) T.n_range (pd_add pd_int.pb (pd_call D__law_take (hr.mono (by decide)) (by rfl) (pad_cons (pd_v 0) (pad_cons pd_int pad_nil))).pb)) (blkOk_by (N := ["draw", "most", "way", "many", "small", "days", "found", "day", "lap"]) (sc := defScope st__law_row) (by decide +kernel)) (fun _ _ _ _ _ => (pgd_name (i := 8) sc.nd rfl (.inl rfl))) (by decide) (fun _ _ _ _ _ => ptsd_nil) (fun _ _ _ _ _ => (pd_add pd_int.pb (pd_call D__law_take (hr.mono (by decide)) (by rfl) (pad_cons (pd_v 0) (pad_cons pd_int pad_nil))).pb))).pd.pb pab_nil)).pv)
    (pssd_cons (psd_setLcD (i := 5) (own := [("day", 7)]) rfl sc.nd rfl rfl (sw_true rfl rfl rfl (by decide +kernel)) (pid_seq (pd_call D__law_days (hr.mono (by decide)) (by rfl) (pad_cons (pd_v 4) (pad_cons pd_int pad_nil)))) (blkOk_by (N := ["draw", "most", "way", "many", "small", "days", "found", "day", "lap"]) (sc := defScope st__law_row) (by decide +kernel)) (fun _ _ _ _ _ => (pgd_name (i := 7) sc.nd rfl (.inl rfl))) (by decide) (fun _ _ _ _ _ => ptsd_one (ptd_le (pd_len (by rfl) T.n_len (pab_cons (pd_v 7).pb pab_nil)).pb (pd_v 1).pb)) (fun _ _ _ _ _ => (pd_v 7)))
    (pssd_one (psd_ret (pd_ifExp (ptd_ne hr.units (pd_v 5).pb (pf_lst pad_nil).pd.pb) (pd_call D__law_pick (hr.mono (by decide)) (by rfl) (pad_cons (pd_v 0) (pad_cons (pd_v 5) pad_nil))) (pd_tup (pad_cons pd_int pad_nil))))))) pssd_nil)
    (pssd_cons (psd_if (ptd_eq hr.units (pd_v 2).pb pd_int.pb) (pssd_one (psd_ret (pd_tuple (by rfl) T.n_tuple (pab_cons (pf_lc (own := [("lap", 8)]) rfl sc.nd (pid_rng1 (by rfl) T.n_range (pd_v 3)) (blkOk_by (N := ["draw", "most", "way", "many", "small", "days", "found", "day", "lap"]) (sc := defScope st__law_row) (by decide +kernel)) (fun _ _ _ _ _ => (pgd_name (i := 8) sc.nd rfl (.inl rfl))) (by decide) (fun _ _ _ _ _ => ptsd_nil) (fun _ _ _ _ _ => (pd_call D__law_pick (hr.mono (by decide)) (by rfl) (pad_cons (pd_v 0) (pad_cons (pf_lst (pad_cons pd_int (pad_cons pd_int (pad_cons pd_int (pad_cons pd_int (pad_cons pd_int (pad_cons pd_int (pad_cons pd_int (pad_cons pd_int (pad_cons pd_int (pad_cons pd_int (pad_cons pd_int pad_nil)))))))))))).pd pad_nil))))).pd.pb pab_nil)))) pssd_nil)
    (pssd_cons (psd_if (ptd_eq hr.units (pd_v 2).pb pd_int.pb) (pssd_cons (psd_set (i := 6) sc.nd rfl (.inl rfl) (pf_lst pad_nil).pd.pv)
    (pssd_cons (psd_while PassesOwn.never (ptd_lt (pd_len (by rfl) T.n_len (pab_cons (pd_v 6).pb pab_nil)).pb (pd_v 3).pb)
    (pssd_one (psd_set (i := 6) sc.nd rfl (.inl rfl) (pd_add (pd_v 6).pb (pd_mul (pf_lst (pad_cons (pd_add pd_int.pb (pd_call D__law_take (hr.mono (by decide)) (by rfl) (pad_cons (pd_v 0) (pad_cons pd_int pad_nil))).pb) pad_nil)).pd.pb (pd_add pd_int.pb (pd_call D__law_take (hr.mono (by decide)) (by rfl) (pad_cons (pd_v 0) (pad_cons pd_int pad_nil))).pb).pb).pb).pv)))
    (pssd_one (psd_ret (pd_tuple (by rfl) T.n_tuple (pab_cons (pd_slice (pd_v 6).pb pod_none (pod_some (pd_v 3).pb)).pb pab_nil)))))) pssd_nil)
    (pssd_cons (psd_if (ptd_eq hr.units (pd_v 2).pb pd_int.pb) (pssd_one (psd_ret (pd_add (pd_slice (pd_tuple (by rfl) T.n_tuple (pab_cons (pd_mul (pf_lst (pad_cons pd_int (pad_cons pd_int pad_nil))).pd.pb pd_int.pb).pb pab_nil)).pb pod_none (pod_some (pd_call D__law_pick (hr.mono (by decide)) (by rfl) (pad_cons (pd_v 0) (pad_cons (pf_lst (pad_cons pd_int (pad_cons pd_int (pad_cons pd_int pad_nil)))).pd pad_nil))).pb)).pb (pd_tuple (by rfl) T.n_tuple (pab_cons (pf_lc (own := [("lap", 8)]) rfl sc.nd (pid_rng1 (by rfl) T.n_range (pd_max2 rfl (by rfl) T.n_max (pab_cons pd_int.pb (pab_cons (pd_sub (pd_v 3).pb pd_int.pb).pb pab_nil)))) (blkOk_by (N := ["draw", "most", "way", "many", "small", "days", "found", "day", "lap"]) (sc := defScope st__law_row) (by decide +kernel)) (fun _ _ _ _ _ => (pgd_name (i := 8) sc.nd rfl (.inl rfl))) (by decide) (fun _ _ _ _ _ => ptsd_nil) (fun _ _ _ _ _ => (pd_add pd_int.pb (pd_call D__law_take (hr.mono (by decide)) (by rfl) (pad_cons (pd_v 0) (pad_cons pd_int pad_nil))).pb))).pd.pb pab_nil)).pb))) pssd_nil)
    (pssd_one (psd_ret (pd_tuple (by rfl) T.n_tuple (pab_cons (pf_lc (own := [("lap", 8)]) rfl sc.nd (pid_rng1 (by rfl) T.n_range (pd_v 3)) (blkOk_by (N := ["draw", "most", "way", "many", "small", "days", "found", "day", "lap"]) (sc := defScope st__law_row) (by decide +kernel)) (fun _ _ _ _ _ => (pgd_name (i := 8) sc.nd rfl (.inl rfl))) (by decide) (fun _ _ _ _ _ => ptsd_nil) (fun _ _ _ _ _ => (pd_add pd_int.pb (pd_call D__law_take (hr.mono (by decide)) (by rfl) (pad_cons (pd_v 0) (pad_cons pd_int pad_nil))).pb))).pd.pb pab_nil))))))))))
    ?_ ?_
  · rintro ds Q ⟨_, rfl, _⟩
    rfl
  · rintro ds Q ⟨most, rfl, h1, h60, q⟩
    walk_at "rd"
    refine ⟨6, rfl, by decide, fun way w0 w1 => ?_⟩
    walk_at "rd"
    refine ⟨most, rfl, by omega, fun m m0 m1 => ?_⟩
    have hm1 : 1 ≤ 1 + m := by omega
    have hm2 : 1 + m ≤ most := by omega
    walk_at "rd"
    refine ifB_i (fun hw => ?_) (fun _ => ?_)
    · refine ⟨4, rfl, by decide, fun a a0 a1 => ?_⟩
      walk_at "rd"
      refine ⟨⟨by omega, by omega⟩, lc_ints (fun i => 1 ≤ i ∧ i ≤ 3) (by rw [sizeLine_eq]; omega) (fun d K hK => ?_) (fun ns hn hp => ?_)⟩
      · walk_at "rd"
        exact ⟨3, rfl, by decide, fun k k0 k1 => hK _ ⟨by omega, by omega⟩⟩
      · have hn4 : ns.length ≤ 4 := by omega
        have hne : ns ≠ [] := by intro z; subst z; simp at hn; omega
        have hsm := small_sayN (r := ns) (fun x hx => by have := hp x hx; omega) hn4
        refine ⟨ns, 9, rfl, by decide, by decide, fun k hk => ?_, ?_⟩
        · have h2 := sayN_len ns k
          have h3 : 2 ^ k ≤ 2 ^ 9 := Nat.pow_le_pow_right (by decide) (by omega)
          have h4 : 2 ^ k * ns.length ≤ 2 ^ 9 * 4 := Nat.mul_le_mul h3 hn4
          omega
        walk_at "rd"
        have hd9 : (daysL ns (Int.toNat 9)).length = 10 := by unfold daysL; simp
        refine lcI_of (xs := daysL ns (Int.toNat 9)) (enc := rowD) (fun r => if (r.length : Int) ≤ most then some (rowD r) else none) (by rw [hd9, sizeLine_eq]; decide) (fun r hr K hK => ?_) ?_
        · walk_at "rd"
          refine ifB_d (fun h => ?_) (fun h => ?_)
          · rw [if_pos h] at hK; exact hK
          · rw [if_neg h] at hK; exact hK
        · have e : (daysL ns (Int.toNat 9)).filterMap (fun r => if (r.length : Int) ≤ most then some (rowD r) else none) = ((daysL ns (Int.toNat 9)).filter fun r => decide ((r.length : Int) ≤ most)).map rowD := by
            generalize daysL ns (Int.toNat 9) = l
            induction l with
            | nil => rfl
            | cons r l ih =>
              rw [List.filterMap_cons, List.filter_cons]
              by_cases h : (r.length : Int) ≤ most
              · rw [if_pos h, if_pos (decide_eq_true h), List.map_cons, ← ih]
              · rw [if_neg h, if_neg (by simpa using h), ← ih]
          rw [List.nil_append, e]
          have hall : ∀ r ∈ (daysL ns (Int.toNat 9)).filter (fun r => decide ((r.length : Int) ≤ most)), RowOf most r := fun r hr => by
            obtain ⟨hr1, hr2⟩ := List.mem_filter.mp hr
            unfold daysL at hr1
            obtain ⟨k, hk, rfl⟩ := List.mem_map.mp hr1
            have hl := of_decide_eq_true hr2
            exact ⟨sayN_ne hne k, by omega, fun x hx => by have := (hsm k).1 x hx; exact mem8 this.1 (by omega)⟩
          have hlen : ((daysL ns (Int.toNat 9)).filter (fun r => decide ((r.length : Int) ≤ most))).length ≤ 10 := by
            rw [← hd9]; exact List.length_filter_le _ _
          generalize (daysL ns (Int.toNat 9)).filter (fun r => decide ((r.length : Int) ≤ most)) = rs at hall hlen ⊢
          refine ⟨by decide, ⟨okD_rows rs, rfl⟩, ifB_i (fun h => ?_) (fun _ => ⟨by decide, q [1] ⟨by simp, by simp; omega, by decide⟩⟩)⟩
          refine ⟨rs.map rowD, .inl rfl, ?_, by rw [List.length_map, sizeLine_eq]; omega, fun x hx => ?_⟩
          · intro z
            rw [z] at h
            exact absurd h (by decide)
          · obtain ⟨r, hr, rfl⟩ := List.mem_map.mp hx
            exact q r (hall r hr)
    · refine ifB_i (fun hw => ?_) (fun _ => ?_)
      · refine ⟨⟨by omega, by omega⟩, lc_ints (fun i => i ∈ ([1, 2, 3, 4, 5, 9, 12, 99] : List Int)) (by rw [sizeLine_eq]; omega) (fun d K hK => ?_) (fun ns hn hp => ?_)⟩
        · walk_at "rd"
          refine ⟨by decide, pick_ints (xs := [1, 1, 2, 2, 3, 3, 4, 5, 9, 12, 99]) (by decide) (by decide) fun i hi => hK _ ?_⟩
          revert i
          decide
        · exact q ns ⟨by intro z; subst z; simp at hn; omega, by omega, hp⟩
      · refine ifB_i (fun hw => ?_) (fun _ => ?_)
        · refine ⟨by decide, ?_⟩
          refine while_st (β := List Int) (γ := Unit) (fun b _ => [.dat (drw P w), .dat (.int most), .dat (.int way), .dat (.int (1 + m)), .no, .no, .dat (.lst (b.map D.int)), .no, .no]) (fun b => b.length ≤ 100 ∧ ∀ x ∈ b, 1 ≤ x ∧ x ≤ 3) (fun b => (1 + m - b.length).toNat) [] () rfl ⟨by decide, by simp⟩ (fun b _ hI K hK => ?_)
          obtain ⟨i1, i2⟩ := hI
          walk_at "rd"
          refine ifB_d (fun h => ?_) (fun h => ?_)
          · refine ⟨3, rfl, by decide, fun k k0 k1 => ?_⟩
            walk_at "rd"
            refine ⟨by decide, 4, rfl, by decide, fun j j0 j1 => ?_⟩
            walk_at "rd"
            have e : (List.replicate (1 + j).toNat [D.int (1 + k)]).flatten = (List.replicate (1 + j).toNat (1 + k)).map D.int := by
              induction (1 + j).toNat with
              | zero => rfl
              | succ n ih => rw [List.replicate_succ, List.flatten_cons, List.replicate_succ, List.map_cons, ih]; rfl
            rw [e]
            refine ⟨by omega, by omega, by rw [sizeLine_eq]; omega, by rw [List.length_map, List.length_replicate, sizeLine_eq]; omega, ?_⟩
            rw [← List.map_append]
            refine hK (b ++ List.replicate (1 + j).toNat (1 + k)) () ⟨by rw [List.length_append, List.length_replicate]; omega, fun x hx => ?_⟩ ?_
            · rcases List.mem_append.mp hx with hx | hx
              · exact i2 x hx
              · rw [List.mem_replicate] at hx
                omega
            · show (1 + m - ((b ++ List.replicate (1 + j).toNat (1 + k)).length : Nat)).toNat < (1 + m - (b.length : Nat)).toNat
              rw [List.length_append, List.length_replicate]
              omega
          · rw [cut_map, cut_take (by omega)]
            refine q _ ⟨?_, ?_, fun x hx => ?_⟩
            · intro z
              have := congrArg List.length z
              rw [List.length_take] at this
              have h0 : min (1 + m).toNat b.length = 0 := this
              omega
            · rw [List.length_take]; omega
            · have := i2 x (List.mem_of_mem_take hx)
              exact mem8 this.1 (by omega)
        · refine ifB_i (fun hw => ?_) (fun _ => ?_)
          · refine ⟨by decide, by decide, by decide, by decide, by decide, ?_⟩
            refine pick_ints (xs := [2, 2, 4]) (by decide) (by decide) fun i hi => ?_
            walk_at "rd"
            have hi' : i = 2 ∨ i = 4 := by simpa using hi
            have hcut : ∃ ts : List Int, cut (List.replicate (Int.toNat 30) [D.int 2, D.int 2]).flatten none (some i) = ts.map D.int ∧ ts ≠ [] ∧ ts.length ≤ 4 ∧ ∀ x ∈ ts, 1 ≤ x ∧ x ≤ 3 := by
              rcases hi' with rfl | rfl
              · exact ⟨[2, 2], by rw [cut_take (by decide)]; rfl, by decide, by decide, by decide⟩
              · exact ⟨[2, 2, 2, 2], by rw [cut_take (by decide)]; rfl, by decide, by decide, by decide⟩
            obtain ⟨ts, e, t1, t2, t3⟩ := hcut
            rw [e]
            generalize hN : (if 1 + m - 4 > 0 then 1 + m - 4 else 0) = N
            have hN2 : 0 ≤ N ∧ (N = 0 ∨ N + 4 ≤ most) := by
              split at hN <;> omega
            refine ⟨⟨by omega, by omega⟩, lc_ints (fun i => 1 ≤ i ∧ i ≤ 4) (by rw [sizeLine_eq]; omega) (fun d K hK => ?_) (fun ns hn hp => ?_)⟩
            · walk_at "rd"
              exact ⟨4, rfl, by decide, fun k k0 k1 => hK _ ⟨by omega, by omega⟩⟩
            · refine ⟨by rw [List.length_map, List.length_map, sizeLine_eq]; omega, ?_⟩
              rw [← List.map_append]
              refine q _ ⟨by simp [t1], by rw [List.length_append]; omega, fun x hx => ?_⟩
              rcases List.mem_append.mp hx with hx | hx
              · have := t3 x hx
                exact mem8 this.1 (by omega)
              · have := hp x hx
                exact mem8 this.1 (by omega)
          · refine ⟨⟨by omega, by omega⟩, lc_ints (fun i => 1 ≤ i ∧ i ≤ 3) (by rw [sizeLine_eq]; omega) (fun d K hK => ?_) (fun ns hn hp => ?_)⟩
            · walk_at "rd"
              exact ⟨3, rfl, by decide, fun k k0 k1 => hK _ ⟨by omega, by omega⟩⟩
            · exact q ns ⟨by intro z; subst z; simp at hn; omega, by omega, fun x hx => by have := hp x hx; exact mem8 this.1 (by omega)⟩
abbrev st_oldest : Stmt := topS 49
theorem sc_oldest : FnScope ["length", "top", "some", "far", "row", "age"] ["length", "top"] (defScope st_oldest) := ⟨rfl, rfl, rfl, by decide +kernel, rfl, by decide +kernel, by decide +kernel⟩
set_option maxHeartbeats 4000000 in
theorem df_oldest (F : FunAt K mg "oldest" "oldest" st_oldest ["length", "top"]) (T : Txt K mg) (D_rows_by : Df P w K mg base 2 "rows_by" sp_rows_by) (D_age_by_backwards : Df P w K mg base 4 "age_by_backwards" sp_age_by_backwards) (D_need_top : Df P w K mg base 2 "need_top" sp_need_top) (D_need_length : Df P w K mg base 2 "need_length" sp_need_length) : Df P w K mg base 5 "oldest" sp_oldest := by
  have sc := sc_oldest
  refine Df.of F sc_oldest _ (fun f cdv A outer s H E hr =>
    (pssd_cons (psd_expr (pd_call D_need_length (hr.mono (by decide)) (by rfl) (pad_cons (pd_v 0) pad_nil)).pb)
    (pssd_cons (psd_expr (pd_call D_need_top (hr.mono (by decide)) (by rfl) (pad_cons (pd_v 1) pad_nil)).pb)
    (pssd_cons (psd_setLcD (i := 2) (own := [("row", 4)]) rfl sc.nd rfl rfl (sw_true rfl rfl rfl (by decide +kernel)) (pid_seq (pd_call D_rows_by (hr.mono (by decide)) (by rfl) (pad_cons (pd_v 0) (pad_cons (pd_v 1) pad_nil)))) (blkOk_by (N := ["length", "top", "some", "far", "row", "age"]) (sc := defScope st_oldest) (by decide +kernel)) (fun _ _ _ _ _ => (pgd_name (i := 4) sc.nd rfl (.inl rfl))) (by decide) (fun _ _ _ _ _ => ptsd_one (ptd_notIn (hu65 hr) (pd_v 4).pb (pd_cst T.c_STILL (by rfl)).pb)) (fun _ _ _ _ _ => (pd_tup (pad_cons (pd_call D_age_by_backwards (hr.mono (by decide)) (by rfl) (pad_cons (pd_v 4) pad_nil)) (pad_cons (pd_v 4) pad_nil)))))
    (pssd_cons (psd_if (ptd_eq hr.units (pd_v 2).pb (pf_lst pad_nil).pd.pb) (pssd_one (psd_ret pd_non)) pssd_nil)
    (pssd_cons (psd_set (i := 3) sc.nd rfl (.inr rfl) (pd_max rfl (by rfl) T.n_max (pab_cons (pf_lc (own := [("row", 4), ("age", 5)]) rfl sc.nd (pid_seq (pd_v 2)) (blkOk_by (N := ["length", "top", "some", "far", "row", "age"]) (sc := defScope st_oldest) (by decide +kernel)) (fun _ _ _ _ _ => (pgd_tup (n := 2) rfl (pgsd_cons (pgd_name (i := 5) sc.nd rfl (.inl rfl)) (pgsd_cons (pgd_name (i := 4) sc.nd rfl (.inl rfl)) pgsd_nil)))) (by decide) (fun _ _ _ _ _ => ptsd_nil) (fun _ _ _ _ _ => (pd_v 5))).pd.pb pab_nil)).pv)
    (pssd_one (psd_ret (pd_tup (pad_cons (pd_v 3) (pad_cons (pd_tuple (by rfl) T.n_tuple (pab_cons (pf_lc (own := [("row", 4), ("age", 5)]) rfl sc.nd (pid_seq (pd_v 2)) (blkOk_by (N := ["length", "top", "some", "far", "row", "age"]) (sc := defScope st_oldest) (by decide +kernel)) (fun _ _ _ _ _ => (pgd_tup (n := 2) rfl (pgsd_cons (pgd_name (i := 5) sc.nd rfl (.inl rfl)) (pgsd_cons (pgd_name (i := 4) sc.nd rfl (.inl rfl)) pgsd_nil)))) (by decide) (fun _ _ _ _ _ => ptsd_one (ptd_eq hr.units (pd_v 5).pb (pd_v 3).pb)) (fun _ _ _ _ _ => (pd_v 4))).pd.pb pab_nil)) pad_nil)))))))))))
    ?_ ?_
  · rintro ds Q ⟨_, _, rfl, _⟩
    rfl
  · rintro ds Q ⟨h, t, rfl, h30, h1, h99, hm, hs, hok, q1, q2⟩
    refine ⟨_, rfl, by omega, by omega, _, rfl, by omega, by omega, ?_⟩
    walk_at "rd"
    refine ⟨h, t, rfl, h30, h1, h99, hm, hs, ?_⟩
    have hl := hs h (Nat.le_refl _)
    have ho : oldL h t = (rowsL h t).filter fun r => !stillB r := rfl
    generalize oldL h t = os at ho q1 q2
    generalize rowsL h t = rs at hok hl ho ⊢
    refine lcI_of (xs := rs) (enc := rowD) (fun r => if !stillB r then some (.tup [.int (esOf r).length, rowD r]) else none) (by rw [sizeLine_eq]; show 0 + rs.length ≤ _; omega) (fun r hr K hK => ?_) ?_
    · walk_at "rd"
      refine ⟨⟨okD_row r, by decide⟩, ?_⟩
      show ifB (!dIn (rowD r) (([[], [2, 2]] : List (List Int)).map rowD)) _ _
      rw [dIn_row]
      show ifB (!stillB r) _ _
      refine ifB_i (fun hb => ?_) (fun hb => ?_)
      · rw [if_pos hb] at hK
        have hb' : stillB r = false := by simpa using hb
        refine ⟨r, esOf r, rfl, okRow_of (hok r hr), ?_⟩
        have e : ageD r (esOf r) = .int (esOf r).length := by unfold ageD; rw [hb']; rfl
        rw [e]
        exact ⟨by rw [sizeLine_eq]; decide, hK⟩
      · rw [hb, if_neg Bool.false_ne_true] at hK
        exact hK
    · rw [List.nil_append, filter_lc, ← ho]
      have hol : os.length ≤ 10000 := by rw [ho]; exact Nat.le_trans (List.length_filter_le _ _) hl
      have okp : okD (.lst (os.map fun r => D.tup [.int (esOf r).length, rowD r])) = true := okD_lst (m := 2) (fun r => by
        show (true && (PyData.canLay0 (rowD r).py && true)) = true
        rw [row_lay]; rfl) (fun r => by
        have := row_depth r
        show PyData.depthAll [PyData.int _, (rowD r).py] + 1 ≤ 2
        show max 0 (max (PyData.depth (rowD r).py) 0) + 1 ≤ 2
        omega) (by decide) os
      refine ⟨by decide, ⟨okp, rfl⟩, ?_⟩
      refine ifB_i (fun hb => ?_) (fun hb => ?_)
      · refine q1 ?_
        cases os with
        | nil => rfl
        | cons a b => exact Bool.noConfusion (show false = true from hb)
      · have hne : os ≠ [] := by
          rintro rfl
          exact absurd hb (by decide)
        refine lcI_map (xs := os) (enc := fun r => D.tup [.int (esOf r).length, rowD r]) (fun r => .int (esOf r).length) (by rw [sizeLine_eq]; show 0 + os.length ≤ _; omega) (fun r hr K hK => ?_) ?_
        · walk_at "rd"
          exact hK
        · refine ⟨os.map fun r => ((esOf r).length : Int), by rw [List.map_map]; rfl, by rw [List.length_map]; exact List.length_pos_iff.mpr hne, fun m hm1 hm2 => ?_⟩
          walk_at "rd"
          refine lcI_of (xs := os) (enc := fun r => D.tup [.int (esOf r).length, rowD r]) (fun r => if decide (((esOf r).length : Int) = m) then some (rowD r) else none) (by rw [sizeLine_eq]; show 0 + os.length ≤ _; omega) (fun r hr K hK => ?_) ?_
          · walk_at "rd"
            refine ifB_i (fun hb => ?_) (fun hb => ?_)
            · rw [if_pos (by simpa using hb)] at hK
              exact hK
            · rw [if_neg (by simpa using hb)] at hK
              exact hK
          · rw [List.nil_append, filter_lc]
            obtain ⟨r, hr, e⟩ := List.mem_map.mp hm1
            exact ⟨by rw [sizeLine_eq]; decide, q2 m ⟨r, hr, e⟩ fun r' hr' => hm2 _ (List.mem_map.mpr ⟨r', hr', rfl⟩)⟩
abbrev st_choices : Stmt := topS 56
theorem sc_choices : FnScope ["number", "top"] ["number", "top"] (defScope st_choices) := ⟨rfl, rfl, rfl, by decide +kernel, rfl, by decide +kernel, by decide +kernel⟩
set_option maxHeartbeats 4000000 in
theorem df_choices (F : FunAt K mg "choices" "choices" st_choices ["number", "top"]) (T : Txt K mg)  : Df P w K mg base 1 "choices" sp_choices := by
  have sc := sc_choices
  refine Df.of F sc_choices _ (fun f cdv A outer s H E hr =>
    (pssd_one (psd_ret (pd_ifExp (ptd_gt (pd_v 0).pb pd_int.pb) (pf_lst (pad_cons (pd_v 0) pad_nil)).pd (pf_listRg rfl (by rfl) T.n_list (by rfl) T.n_range pd_int.pb (pd_add (pd_v 1).pb pd_int.pb).pb).pd))))
    ?_ ?_
  · rintro ds Q ⟨_, _, rfl, _⟩
    rfl
  · rintro ds Q ⟨n, t, rfl, ht, q⟩
    walk_at "rd"
    unfold choicesL at q
    refine ifB_d (fun h => ?_) (fun h => ?_)
    · rw [if_pos h] at q
      exact ⟨by rw [sizeLine_eq]; decide, q⟩
    · rw [if_neg (by omega)] at q
      refine ⟨RgOk.of_le (by decide) (by omega) (by decide) (by omega), ?_⟩
      have e : ((t : Int) + 1 - 1).toNat = t := by omega
      rw [e]
      unfold rgD
      rw [List.map_map] at q
      exact q
abbrev st_many_by_sketches : Stmt := topS 57
theorem sc_many_by_sketches : FnScope ["sketch", "top", "place", "counts", "total", "ways", "what"] ["sketch", "top"] (defScope st_many_by_sketches) := ⟨rfl, rfl, rfl, by decide +kernel, rfl, by decide +kernel, by decide +kernel⟩
set_option maxHeartbeats 4000000 in
theorem df_many_by_sketches (F : FunAt K mg "many_by_sketches" "many_by" st_many_by_sketches ["sketch", "top"]) (T : Txt K mg) (D_choices : Df P w K mg base 1 "choices" sp_choices) : Df P w K mg base 2 "many_by_sketches" sp_many_by_sketches := by
  have sc := sc_many_by_sketches
  refine Df.of F sc_many_by_sketches _ (fun f cdv A outer s H E hr =>
    (pssd_cons (psd_if (ptd_eq hr.units (pd_mod (pd_len (by rfl) T.n_len (pab_cons (pd_v 0).pb pab_nil)).pb pd_int.pb).pb pd_int.pb) (pssd_one (psd_ret pd_int)) pssd_nil)
    (pssd_cons (psd_asg (pd_tup (pad_cons pf_dictK.pd (pad_cons pd_int pad_nil))) (pgd_tup (n := 2) rfl (pgsd_cons (pgd_name (i := 3) sc.nd rfl (.inr rfl)) (pgsd_cons (pgd_name (i := 4) sc.nd rfl (.inr rfl)) pgsd_nil))))
    (pssd_cons (psd_for PassesOwn.never rfl (pid_rng3 (by rfl) T.n_range pd_int (pd_len (by rfl) T.n_len (pab_cons (pd_v 0).pb pab_nil)) pd_int) (pgd_name (i := 2) sc.nd rfl (.inl rfl))
    (pssd_cons (psd_set (i := 5) sc.nd rfl (.inr rfl) (pd_len (by rfl) T.n_len (pab_cons (pd_call D_choices (hr.mono (by decide)) (by rfl) (pad_cons (pd_ix (pd_v 0).pb (pd_v 2).pb) (pad_cons (pd_v 1) pad_nil))).pb pab_nil)).pv)
    (pssd_cons (psd_set (i := 3) sc.nd rfl (.inr rfl) (pf_dc (own := [("what", 6)]) rfl sc.nd (pid_seq (pd_call D_choices (hr.mono (by decide)) (by rfl) (pad_cons (pd_ix (pd_v 0).pb (pd_add (pd_v 2).pb pd_int.pb).pb) (pad_cons (pd_v 1) pad_nil)))) (blkOk_by (N := ["sketch", "top", "place", "counts", "total", "ways", "what"]) (sc := defScope st_many_by_sketches) (by decide +kernel)) (fun _ _ _ _ _ => (pgd_name (i := 6) sc.nd rfl (.inl rfl))) (by decide) (fun _ _ _ _ _ => ptsd_nil) (fun _ _ _ _ _ => (pd_v 6)) (fun _ _ _ _ _ => (pd_mul (pd_sub (pd_v 4).pb (pd_m_get2 (hu1 hr) (pd_v 3).pb (pd_v 6) pd_int).pb).pb (pd_v 5).pb))).pd.pv)
    (pssd_one (psd_set (i := 4) sc.nd rfl (.inr rfl) (pd_sumVals rfl (by rfl) T.n_sum (pd_v 3).pb).pv)))))
    (pssd_one (psd_ret (pd_v 4)))))))
    ?_ ?_
  · rintro ds Q ⟨_, _, rfl, _⟩
    rfl
  · rintro ds Q ⟨s, t, rfl, hl, h1, h99, q⟩
    walk_at "rd"
    refine ⟨by decide, ?_⟩
    unfold manyS at q
    refine ifB_i (fun hb => ?_) (fun hb => ?_)
    · have hb : (s.length : Int) % 2 = 1 := by simpa using hb
      rw [if_pos (by omega)] at q
      exact q
    · have hb : ¬ (s.length : Int) % 2 = 1 := by simpa using hb
      rw [if_neg (by omega)] at q
      refine ⟨by decide, .mk _ (RgC.two (by omega) (by omega) (by omega) (by omega)) ?_⟩
      have hn : (((s.length : Int) - 0 + 1) / 2).toNat = s.length / 2 := by omega
      rw [hn]
      refine forI_fold (xs := List.range (s.length / 2)) (enc := fun i : Nat => D.int (0 + (i : Nat) * 2)) (β := List (Int × Int) × Int) (γ := Sl × Sl) (fun acc c => [.dat (rowD s), .dat (.int (t : Int)), c.1, .dat (.dct (cntD acc.1)), .dat (.int acc.2), c.2, .no]) (fun st i => cntStep t st (s.getD (i * 2) 0) (s.getD (i * 2 + 1) 0)) ([], 1) (.no, .no) rfl (fun pre i post hx c K hK => ?_) (fun c => q)
      have hi : i < s.length / 2 := by
        have : i ∈ List.range (s.length / 2) := by rw [hx]; simp
        simpa using this
      have h1' : i * 2 < s.length := by omega
      have h2' : i * 2 + 1 < s.length := by omega
      have e1 : atI s ((0 : Int) + (i : Nat) * 2) = some (s.getD (i * 2) 0) := by
        rw [show (0 : Int) + (i : Nat) * 2 = ((i * 2 : Nat) : Int) by omega]
        exact atI_nat (by rw [List.getElem?_eq_getElem h1', List.getD_eq_getElem?_getD, List.getElem?_eq_getElem h1']; rfl)
      have e2 : atI s ((0 : Int) + (i : Nat) * 2 + 1) = some (s.getD (i * 2 + 1) 0) := by
        rw [show (0 : Int) + (i : Nat) * 2 + 1 = ((i * 2 + 1 : Nat) : Int) by omega]
        exact atI_nat (by rw [List.getElem?_eq_getElem h2', List.getD_eq_getElem?_getD, List.getElem?_eq_getElem h2']; rfl)
      generalize List.foldl _ (([], 1) : List (Int × Int) × Int) pre = st at hK ⊢
      generalize s.getD (i * 2) 0 = sc at e1 hK
      generalize s.getD (i * 2 + 1) 0 = sa at e2 hK
      walk_at "rd"
      simp only [atI_map, e1, e2]
      walk_at "rd"
      refine ⟨sc, t, rfl, by omega, ?_⟩
      refine ⟨sa, t, rfl, by omega, ?_⟩
      have hcl := choices_len sc t h1
      have hca := choices_len sa t h1
      walk_at "rd"
      refine dcI_fold (xs := choicesL sa t) (enc := D.int) (fun w => (.inl w : Key)) (fun w => .int ((st.2 - getC st.1 w) * ((choicesL sc t).length : Nat))) (by rw [sizeLine_eq]; omega) (fun w _ K2 hK2 => ?_) ?_
      · walk_at "rd"
        rw [valD_cnt]
        walk_at "rd"
        exact ⟨mulS_r (by omega), hK2⟩
      · have ef := fold_putD (fun w => (.inl w : Key)) (fun w : Int => D.int ((st.2 - getC st.1 w) * ((choicesL sc t).length : Nat))) (choicesL sa t) [] (by
          rw [List.map_nil, List.nil_append]
          exact List.pairwise_map.mpr ((choices_nodup sa t).imp fun {a b} h z => h (Sum.inl.inj z)))
        rw [ef, List.nil_append]
        have ec : (choicesL sa t).map (fun w => ((.inl w : Key), D.int ((st.2 - getC st.1 w) * ((choicesL sc t).length : Nat)))) = cntD (cntStep t st sc sa).1 := by
          unfold cntStep cntD
          rw [List.map_map]; rfl
        rw [ec]
        exact ⟨(cntStep t st sc sa).1.map (·.2), cnt_vals _, hK (_, _)⟩
abbrev st_need_sketch : Stmt := topS 55
theorem sc_need_sketch : FnScope ["sketch", "number"] ["sketch"] (defScope st_need_sketch) := ⟨rfl, rfl, rfl, by decide +kernel, rfl, by decide +kernel, by decide +kernel⟩
set_option maxHeartbeats 4000000 in
theorem df_need_sketch (F : FunAt K mg "need_sketch" "need_sketch" st_need_sketch ["sketch"]) (T : Txt K mg) (D_is_whole : Df P w K mg base 1 "is_whole" sp_is_whole) : Df P w K mg base 2 "need_sketch" sp_need_sketch := by
  have sc := sc_need_sketch
  refine Df.of F sc_need_sketch _ (fun f cdv A outer s H E hr =>
    (pssd_cons (psd_if (pwd_or (ptd_not (ptd_isi (T := "tuple") (by decide) (by rfl) T.n_isinstance (by rfl) T.n_tuple (by decide +kernel) (pd_v 0).pb)) (pwd_or1 (ptd_gt (pd_len (by rfl) T.n_len (pab_cons (pd_v 0).pb pab_nil)).pb (pd_cst T.c_MOST_NUMBERS (by rfl)).pb))).pt pssd_never pssd_nil)
    (pssd_one (psd_if (ptd_not (ptd_val (pd_all rfl (by rfl) T.n_all (pab_cons (pf_lc (own := [("number", 1)]) rfl sc.nd (pid_seq (pd_v 0)) (blkOk_by (N := ["sketch", "number"]) (sc := defScope st_need_sketch) (by decide +kernel)) (fun _ _ _ _ _ => (pgd_name (i := 1) sc.nd rfl (.inl rfl))) (by decide) (fun _ _ _ _ _ => ptsd_nil) (fun _ _ _ _ _ => (pd_and (pd_call D_is_whole (hr.mono (by decide)) (by rfl) (pad_cons (pd_v 1) pad_nil)).pb (pd_one (pd_chain op_le op_le v_ci v_ci pd_int.pb (pd_v 1).pb (pd_cst T.c_MOST_NUMBER (by rfl)).pb))))).pd.pb pab_nil)).pb)) pssd_never pssd_nil))))
    ?_ ?_
  · rintro ds Q ⟨_, rfl, _⟩
    rfl
  · rintro ds Q ⟨s, rfl, h, q⟩
    unfold isSkB at h
    rw [Bool.and_eq_true] at h
    have hl := of_decide_eq_true h.1
    walk_at "rd"
    refine ifB_F (decide_eq_false (by omega)) ?_
    refine lcI_map (xs := s) (enc := D.int) (fun x => .bl (decide (0 ≤ x) && decide (x ≤ 99))) (by rw [sizeLine_eq]; show 0 + s.length ≤ _; omega) (fun x _ K hK => ?_) ?_
    · refine ⟨x, rfl, ?_⟩
      walk_at "rd"
      refine ifB_i (fun h1 => ?_) (fun h1 => ?_) <;> (rw [h1] at hK; exact hK)
    · refine ⟨s.map fun x => decide (0 ≤ x) && decide (x ≤ 99), by rw [List.map_map]; rfl, ?_⟩
      have e : (s.map fun x => decide (0 ≤ x) && decide (x ≤ 99)).all id = true := by rw [List.all_map]; exact h.2
      rw [e]
      exact q
abbrev st_many_fillings : Stmt := topS 60
theorem sc_many_fillings : FnScope ["sketch", "top"] ["sketch", "top"] (defScope st_many_fillings) := ⟨rfl, rfl, rfl, by decide +kernel, rfl, by decide +kernel, by decide +kernel⟩
set_option maxHeartbeats 4000000 in
theorem df_many_fillings (F : FunAt K mg "many_fillings" "many_fillings" st_many_fillings ["sketch", "top"]) (T : Txt K mg) (D_many_by_sketches : Df P w K mg base 2 "many_by_sketches" sp_many_by_sketches) (D_need_top : Df P w K mg base 2 "need_top" sp_need_top) (D_need_sketch : Df P w K mg base 2 "need_sketch" sp_need_sketch) : Df P w K mg base 3 "many_fillings" sp_many_fillings := by
  have sc := sc_many_fillings
  refine Df.of F sc_many_fillings _ (fun f cdv A outer s H E hr =>
    (pssd_cons (psd_expr (pd_call D_need_sketch (hr.mono (by decide)) (by rfl) (pad_cons (pd_v 0) pad_nil)).pb)
    (pssd_cons (psd_expr (pd_call D_need_top (hr.mono (by decide)) (by rfl) (pad_cons (pd_v 1) pad_nil)).pb)
    (pssd_one (psd_ret (pd_call D_many_by_sketches (hr.mono (by decide)) (by rfl) (pad_cons (pd_v 0) (pad_cons (pd_v 1) pad_nil))))))))
    ?_ ?_
  · rintro ds Q ⟨_, _, rfl, _⟩
    rfl
  · rintro ds Q ⟨s, t, rfl, h, h1, h99, q⟩
    have hl : s.length ≤ 60 := by unfold isSkB at h; rw [Bool.and_eq_true] at h; exact of_decide_eq_true h.1
    exact ⟨s, rfl, h, _, rfl, by omega, by omega, s, t, rfl, hl, h1, h99, q⟩
abbrev st_fillings_by : Stmt := topS 59
theorem sc_fillings_by : FnScope ["sketch", "top", "many", "found", "place", "late", "row", "some", "what"] ["sketch", "top"] (defScope st_fillings_by) := ⟨rfl, rfl, rfl, by decide +kernel, rfl, by decide +kernel, by decide +kernel⟩
set_option maxHeartbeats 4000000 in
theorem df_fillings_by (F : FunAt K mg "fillings_by" "fillings_by" st_fillings_by ["sketch", "top"]) (T : Txt K mg) (D_choices : Df P w K mg base 1 "choices" sp_choices) (D_many_by_sketches : Df P w K mg base 2 "many_by_sketches" sp_many_by_sketches) : Df P w K mg base 3 "fillings_by" sp_fillings_by := by
  have sc := sc_fillings_by
  refine Df.of F sc_fillings_by _ (fun f cdv A outer s H E hr =>
    (pssd_cons (psd_set (i := 2) sc.nd rfl (.inr rfl) (pd_call D_many_by_sketches (hr.mono (by decide)) (by rfl) (pad_cons (pd_v 0) (pad_cons (pd_v 1) pad_nil))).pv)
    (pssd_cons (psd_if (ptd_gt (pd_v 2).pb (pd_cst T.c_MOST_TOLD (by rfl)).pb) pssd_never pssd_nil)
    (pssd_cons (psd_if (ptd_eq hr.units (pd_v 2).pb pd_int.pb) (pssd_one (psd_ret (pf_lst pad_nil).pd)) pssd_nil)
    (pssd_cons (psd_set (i := 3) sc.nd rfl (.inl rfl) (pf_lst (pad_cons (pd_tup pad_nil) pad_nil)).pd.pv)
    (pssd_cons (psd_for PassesOwn.never rfl (pid_rng3 (by rfl) T.n_range pd_int (pd_len (by rfl) T.n_len (pab_cons (pd_v 0).pb pab_nil)) pd_int) (pgd_name (i := 4) sc.nd rfl (.inl rfl))
    (pssd_cons (psd_set (i := 5) sc.nd rfl (.inl rfl) (pf_lst pad_nil).pv)
    (pssd_cons (psd_for PassesOwn.never rfl (pid_seq (pd_v 3)) (pgd_name (i := 6) sc.nd rfl (.inr rfl))
    (pssd_one (psd_for PassesOwn.never rfl (pid_seq (pd_call D_choices (hr.mono (by decide)) (by rfl) (pad_cons (pd_ix (pd_v 0).pb (pd_v 4).pb) (pad_cons (pd_v 1) pad_nil)))) (pgd_name (i := 2) sc.nd rfl (.inr rfl))
    (pssd_cons (psd_set (i := 7) sc.nd rfl (.inl rfl) (pd_call D_choices (hr.mono (by decide)) (by rfl) (pad_cons (pd_ix (pd_v 0).pb (pd_add (pd_v 4).pb pd_int.pb).pb) (pad_cons (pd_v 1) pad_nil))).pv)
    (pssd_one (psd_ext 5 (pf_lc (own := [("what", 8)]) rfl sc.nd (pid_seq (pd_v 7)) (blkOk_by (N := ["sketch", "top", "many", "found", "place", "late", "row", "some", "what"]) (sc := defScope st_fillings_by) (by decide +kernel)) (fun _ _ _ _ _ => (pgd_name (i := 8) sc.nd rfl (.inl rfl))) (by decide) (fun _ _ _ _ _ => ptsd_one (pwd_or (ptd_eq hr.units (pd_v 6).pb (pd_tup pad_nil).pb) (pwd_or1 (ptd_ne hr.units (pd_ix (pd_v 6).pb (pd_neg pd_int.pb).pb).pb (pd_v 8).pb))).pt) (fun _ _ _ _ _ => (pd_tup (pad_star (pd_v 6) (pad_cons (pd_v 2) (pad_cons (pd_v 8) pad_nil)))))).pd))))))
    (pssd_one (psd_frz 5 (psd_set (i := 3) sc.nd rfl (.inl rfl) (pd_v 5).pv))))))
    (pssd_one (psd_ret (pd_v 3)))))))))
    ?_ ?_
  · rintro ds Q ⟨_, _, rfl, _⟩
    rfl
  · rintro ds Q ⟨s, t, rfl, hl, h1, h99, hm, hs, q⟩
    refine ⟨s, t, rfl, hl, h1, h99, ?_⟩
    walk_at "rd"
    refine ifB_F (decide_eq_false (by omega)) ?_
    unfold fillL at q
    refine ifB_i (fun hb => ?_) (fun hb => ?_)
    · have hb : manyS s t = 0 := by simpa using hb
      rw [if_pos hb] at q
      exact ⟨by decide, q⟩
    · have hb : ¬ manyS s t = 0 := by simpa using hb
      rw [if_neg hb] at q
      obtain ⟨hev, hs⟩ := hs hb
      refine ⟨by decide, by decide, .mk _ (RgC.two (by omega) (by omega) (by omega) (by omega)) ?_⟩
      have hn : (((s.length : Int) - 0 + 1) / 2).toNat = s.length / 2 := by omega
      rw [hn]
      refine forI_fold (xs := List.range (s.length / 2)) (enc := fun i : Nat => D.int (0 + (i : Nat) * 2)) (β := List (List Int)) (γ := Sl × Sl × Sl × Sl × Sl × Sl) (fun acc c => [.dat (rowD s), .dat (.int (t : Int)), c.1, .dat (.lst (acc.map rowD)), c.2.1, c.2.2.1, c.2.2.2.1, c.2.2.2.2.1, c.2.2.2.2.2]) (fun f i => fillStep t (s.getD (i * 2) 0) (s.getD (i * 2 + 1) 0) f) [[]] (_, .no, .no, .no, .no, .no) rfl (fun pre x post hx c K hK => ?_) (fun c => q)
      obtain ⟨rfl, hxh⟩ := range_split hx
      have hacc : (List.range x).foldl (fun f i => fillStep t (s.getD (i * 2) 0) (s.getD (i * 2 + 1) 0) f) [[]] = fillN s t x := rfl
      rw [hacc] at hK ⊢
      have hsz := hs (x + 1) (by omega)
      rw [fillN_succ] at hsz
      have hlen := fillN_len s t x
      have h1' : x * 2 < s.length := by omega
      have h2' : x * 2 + 1 < s.length := by omega
      have e1 : atI s ((0 : Int) + (x : Nat) * 2) = some (s.getD (x * 2) 0) := by
        rw [show (0 : Int) + (x : Nat) * 2 = ((x * 2 : Nat) : Int) by omega]
        exact atI_nat (by rw [List.getElem?_eq_getElem h1', List.getD_eq_getElem?_getD, List.getElem?_eq_getElem h1']; rfl)
      have e2 : atI s ((0 : Int) + (x : Nat) * 2 + 1) = some (s.getD (x * 2 + 1) 0) := by
        rw [show (0 : Int) + (x : Nat) * 2 + 1 = ((x * 2 + 1 : Nat) : Int) by omega]
        exact atI_nat (by rw [List.getElem?_eq_getElem h2', List.getD_eq_getElem?_getD, List.getElem?_eq_getElem h2']; rfl)
      generalize s.getD (x * 2) 0 = sc at e1 hK hsz
      generalize s.getD (x * 2 + 1) 0 = sa at e2 hK hsz
      generalize fillN s t x = found at hK hsz hlen ⊢
      walk_at "rd"
      refine ⟨by decide, ?_⟩
      refine forI_fold (xs := found) (enc := rowD) (β := List (List Int)) (γ := Sl × Sl × Sl) (fun acc c' => [.dat (rowD s), .dat (.int (t : Int)), c'.1, .dat (.lst (found.map rowD)), .dat (.int (0 + (x : Nat) * 2)), .own (.lst (acc.map rowD)), c'.2.1, c'.2.2, c.2.2.2.2.2]) (fun a row => a ++ fillG t sc sa row) [] (c.1, c.2.2.2.1, c.2.2.2.2.1) rfl (fun pre row post hr c2 K2 hK2 => ?_) (fun c2 => ?_)
      · rw [foldA, List.nil_append] at hK2 ⊢
        have hp := flat_pre (f := fillG t sc sa) hr
        have hrl := hlen row (by rw [hr]; simp)
        have hp2 : (found.flatMap (fillG t sc sa)).length ≤ 10000 := hsz
        generalize pre.flatMap (fillG t sc sa) = a2 at hK2 hp ⊢
        walk_at "rd"
        simp only [atI_map, e1]
        walk_at "rd"
        refine ⟨sc, t, rfl, by omega, ?_⟩
        walk_at "rd"
        refine forI_fold (xs := choicesL sc t) (enc := D.int) (β := List (List Int)) (γ := Sl × Sl) (fun acc c' => [.dat (rowD s), .dat (.int (t : Int)), c'.1, .dat (.lst (found.map rowD)), .dat (.int (0 + (x : Nat) * 2)), .own (.lst (acc.map rowD)), .dat (rowD row), c'.2, c.2.2.2.2.2]) (fun a m => a ++ fillH t sa row m) a2 (c2.1, c2.2.2) rfl (fun pre3 m post3 hm3 c3 K3 hK3 => ?_) (fun c3 => ?_)
        · rw [foldA] at hK3 ⊢
          have hp3 := flat_pre (f := fillH t sa row) hm3
          have hp4 : ((choicesL sc t).flatMap (fillH t sa row)).length = (fillG t sc sa row).length := rfl
          generalize hA3 : a2 ++ pre3.flatMap (fillH t sa row) = a3 at hK3 ⊢
          have hl3 : a3.length = a2.length + (pre3.flatMap (fillH t sa row)).length := by rw [← hA3, List.length_append]
          have hca := choices_len sa t h1
          walk_at "rd"
          simp only [atI_map, e2]
          walk_at "rd"
          refine ⟨sa, t, rfl, by omega, ?_⟩
          walk_at "rd"
          refine lcI_of (xs := choicesL sa t) (enc := D.int) (fun w => if okN row w then some (rowD (row ++ [m, w])) else none) (by rw [sizeLine_eq]; show 0 + _ ≤ _; omega) (fun w _ K4 hK4 => ?_) ?_
          · walk_at "rd"
            refine ⟨by decide, ⟨okD_row row, by decide⟩, ?_⟩
            rw [deq_row_nil]
            have fin : (row.map D.int ++ [D.int m, D.int w]).length ≤ sizeLine := by
              rw [List.length_append, List.length_map, sizeLine_eq, hrl]
              simp
              omega
            have fe : D.tup (row.map D.int ++ [D.int m, D.int w]) = rowD (row ++ [m, w]) := by rw [rowD, List.map_append]; rfl
            refine ifB_d (fun hr0 => ?_) (fun hr0 => ?_)
            · have hc : okN row w = true := decide_eq_true (.inl hr0)
              rw [hc, if_pos rfl] at hK4
              refine ⟨fin, ?_⟩
              rw [fe]
              exact hK4
            · rcases snoc_cases row with z | ⟨r0, y, rfl⟩
              · exact absurd z hr0
              · have hat : atI (r0 ++ [y]) (-1) = some y := atI_last _ _
                rw [atI_map, hat]
                walk_at "rd"
                by_cases hy : y = w
                · have hc : okN (r0 ++ [y]) w = false := decide_eq_false (by
                    rintro (z | z)
                    · exact hr0 z
                    · exact z (by rw [List.getLast?_concat, hy]))
                  rw [hc, if_neg Bool.false_ne_true] at hK4
                  refine ifB_F (by simp [hy]) ?_
                  exact hK4
                · have hc : okN (r0 ++ [y]) w = true := decide_eq_true (.inr (by rw [List.getLast?_concat]; intro z; exact hy (Option.some.inj z)))
                  rw [hc, if_pos rfl] at hK4
                  refine ifB_T (by simp [hy]) ?_
                  refine ⟨fin, ?_⟩
                  rw [fe]
                  exact hK4
          · rw [filter_lc, List.nil_append]
            have eH : ((choicesL sa t).filter (okN row)).map (fun w => rowD (row ++ [m, w])) = (fillH t sa row m).map rowD := by unfold fillH; rw [List.map_map]; rfl
            rw [eH]
            refine ⟨by rw [sizeLine_eq]; simp only [List.length_map]; omega, ?_⟩
            rw [← List.map_append]
            exact hK3 (_, _)
        · rw [foldA]
          exact hK2 (_, _, _)
      · rw [foldA, List.nil_append]
        exact hK (_, _, _, _, _, _)
abbrev st_fillings : Stmt := topS 61
theorem sc_fillings : FnScope ["sketch", "top"] ["sketch", "top"] (defScope st_fillings) := ⟨rfl, rfl, rfl, by decide +kernel, rfl, by decide +kernel, by decide +kernel⟩
set_option maxHeartbeats 4000000 in
theorem df_fillings (F : FunAt K mg "fillings" "fillings" st_fillings ["sketch", "top"]) (T : Txt K mg) (D_fillings_by : Df P w K mg base 3 "fillings_by" sp_fillings_by) (D_need_top : Df P w K mg base 2 "need_top" sp_need_top) (D_need_sketch : Df P w K mg base 2 "need_sketch" sp_need_sketch) : Df P w K mg base 4 "fillings" sp_fillings := by
  have sc := sc_fillings
  refine Df.of F sc_fillings _ (fun f cdv A outer s H E hr =>
    (pssd_cons (psd_expr (pd_call D_need_sketch (hr.mono (by decide)) (by rfl) (pad_cons (pd_v 0) pad_nil)).pb)
    (pssd_cons (psd_expr (pd_call D_need_top (hr.mono (by decide)) (by rfl) (pad_cons (pd_v 1) pad_nil)).pb)
    (pssd_one (psd_ret (pd_tuple (by rfl) T.n_tuple (pab_cons (pd_call D_fillings_by (hr.mono (by decide)) (by rfl) (pad_cons (pd_v 0) (pad_cons (pd_v 1) pad_nil))).pb pab_nil)))))))
    ?_ ?_
  · rintro ds Q ⟨_, _, rfl, _⟩
    rfl
  · rintro ds Q ⟨s, t, rfl, h, h1, h99, hm, hs, q⟩
    have hl : s.length ≤ 60 := by unfold isSkB at h; rw [Bool.and_eq_true] at h; exact of_decide_eq_true h.1
    refine ⟨s, rfl, h, _, rfl, by omega, by omega, s, t, rfl, hl, h1, h99, hm, hs, ?_⟩
    walk_at "rd"
    exact q
abbrev st_elder : Stmt := topS 32
theorem sc_elder : FnScope ["row"] ["row"] (defScope st_elder) := ⟨rfl, rfl, rfl, by decide +kernel, rfl, by decide +kernel, by decide +kernel⟩
set_option maxHeartbeats 4000000 in
theorem df_elder (F : FunAt K mg "elder" "elder" st_elder ["row"]) (T : Txt K mg) (D_elder_by : Df P w K mg base 2 "elder_by" sp_elder_by) (D_need_row : Df P w K mg base 3 "need_row" sp_need_row) : Df P w K mg base 4 "elder" sp_elder := by
  have sc := sc_elder
  refine Df.of F sc_elder _ (fun f cdv A outer s H E hr =>
    (pssd_cons (psd_expr (pd_call D_need_row (hr.mono (by decide)) (by rfl) (pad_cons (pd_v 0) (pad_cons pd_str pad_nil))).pb)
    (pssd_one (psd_ret (pd_call D_elder_by (hr.mono (by decide)) (by rfl) (pad_cons (pd_v 0) pad_nil))))))
    ?_ ?_
  · rintro ds Q ⟨_, rfl, _⟩
    rfl
  · rintro ds Q ⟨r, rfl, h, q⟩
    have h1 := isRow_len h
    have h2 := isRow_unsay h
    exact ⟨r, _, rfl, h, r, rfl, by omega, isRow_pos h, by omega, q⟩
abbrev st__law_right : Stmt := topS 73
theorem sc__law_right : FnScope ["draw", "length", "some", "wide", "best", "late", "line", "back", "half", "top", "base", "days", "row"] ["draw"] (defScope st__law_right) := ⟨rfl, rfl, rfl, by decide +kernel, rfl, by decide +kernel, by decide +kernel⟩
set_option maxHeartbeats 4000000 in
theorem df__law_right (F : FunAt K mg "_law_right" "_law_right" st__law_right ["draw"]) (T : Txt K mg) (D_meeting : Df P w K mg base 5 "meeting" sp_meeting) (D_age : Df P w K mg base 5 "age" sp_age) (D__law_take : Df P w K mg base 2 "_law_take" (sp__law_take P w)) (D_elders : Df P w K mg base 4 "elders" sp_elders) (D_said_often : Df P w K mg base 4 "said_often" sp_said_often) (D__law_row : Df P w K mg base 4 "_law_row" (sp__law_row P w)) (D_oldest : Df P w K mg base 5 "oldest" sp_oldest) (D_aged_rows : Df P w K mg base 6 "aged_rows" sp_aged_rows) (D_many_fillings : Df P w K mg base 3 "many_fillings" sp_many_fillings) (D_fillings : Df P w K mg base 4 "fillings" sp_fillings) (D_elder : Df P w K mg base 4 "elder" sp_elder) (D_many_with_elder : Df P w K mg base 3 "many_with_elder" sp_many_with_elder) : Df P w K mg base 7 "_law_right" (sp__law_right P w) := by
  have sc := sc__law_right
  refine Df.of F sc__law_right _ (fun f cdv A outer s H E hr =>
    (pssd_cons (psd_par (i := 8) (j := 9) rfl sc.nd rfl rfl (by decide) rfl rfl (pd_call D__law_take (hr.mono (by decide)) (by rfl) (pad_cons (pd_v 0) (pad_cons pd_int pad_nil))).pv (pd_add pd_int.pb (pd_call D__law_take (hr.mono (by decide)) (by rfl) (pad_cons (pd_v 0) (pad_cons pd_int pad_nil))).pb).pv (by rfl))
    (pssd_cons (psd_set (i := 1) sc.nd rfl (.inl rfl) (pd_mul pd_int.pb (pd_v 8).pb).pv)
    (pssd_cons (psd_set (i := 2) sc.nd rfl (.inl rfl) (pd_call D_aged_rows (hr.mono (by decide)) (by rfl) (pad_cons (pd_v 1) (pad_cons (pd_v 9) (pad_cons pd_int pad_nil)))).pv)
    (pssd_cons (psd_if (pwd_or (ptd_ne hr.units (pd_len (by rfl) T.n_len (pab_cons (pd_v 2).pb pab_nil)).pb (pd_call D_many_with_elder (hr.mono (by decide)) (by rfl) (pad_cons (pd_v 1) (pad_cons (pd_v 9) pad_nil))).pb) (pwd_or (ptd_ne hr.units (pf_lc (own := [("row", 12)]) rfl sc.nd (pid_seq (pd_v 2)) (blkOk_by (N := ["draw", "length", "some", "wide", "best", "late", "line", "back", "half", "top", "base", "days", "row"]) (sc := defScope st__law_right) (by decide +kernel)) (fun _ _ _ _ _ => (pgd_name (i := 12) sc.nd rfl (.inl rfl))) (by decide) (fun _ _ _ _ _ => ptsd_one (ptd_is (pd_call D_elder (hr.mono (by decide)) (by rfl) (pad_cons (pd_v 12) pad_nil)).pb pd_non.pb)) (fun _ _ _ _ _ => (pd_v 12))).pd.pb (pf_lst pad_nil).pd.pb) (pwd_or (ptd_ne hr.units (pd_call D_fillings (hr.mono (by decide)) (by rfl) (pad_cons (pd_mul (pd_tup (pad_cons pd_int pad_nil)).pb (pd_v 1).pb) (pad_cons (pd_v 9) pad_nil))).pb (pd_v 2).pb) (pwd_or1 (ptd_ne hr.units (pd_call D_many_fillings (hr.mono (by decide)) (by rfl) (pad_cons (pd_mul (pd_tup (pad_cons pd_int pad_nil)).pb (pd_v 1).pb) (pad_cons (pd_v 9) pad_nil))).pb (pd_len (by rfl) T.n_len (pab_cons (pd_v 2).pb pab_nil)).pb))))).pt (pssd_one (psd_ret pd_bl)) pssd_nil)
    (pssd_cons (psd_set (i := 3) sc.nd rfl (.inl rfl) (pd_call D_aged_rows (hr.mono (by decide)) (by rfl) (pad_cons (pd_v 1) (pad_cons (pd_v 9) (pad_cons pd_int pad_nil)))).pv)
    (pssd_cons (psd_if (ptd_ne hr.units (pf_list (by rfl) T.n_list (pab_cons (pd_v 3).pb pab_nil)).pd.pb (pf_lc (own := [("row", 12)]) rfl sc.nd (pid_seq (pd_v 2)) (blkOk_by (N := ["draw", "length", "some", "wide", "best", "late", "line", "back", "half", "top", "base", "days", "row"]) (sc := defScope st__law_right) (by decide +kernel)) (fun _ _ _ _ _ => (pgd_name (i := 12) sc.nd rfl (.inl rfl))) (by decide) (fun _ _ _ _ _ => ptsd_one (pwd_or (ptd_is (pd_call D_age (hr.mono (by decide)) (by rfl) (pad_cons (pd_v 12) pad_nil)).pb pd_non.pb) (pwd_or1 (ptd_gt (pd_call D_age (hr.mono (by decide)) (by rfl) (pad_cons (pd_v 12) pad_nil)).pb pd_int.pb))).pt) (fun _ _ _ _ _ => (pd_v 12))).pd.pb) (pssd_one (psd_ret pd_bl)) pssd_nil)
    (pssd_cons (psd_set (i := 4) sc.nd rfl (.inr rfl) (pd_call D_oldest (hr.mono (by decide)) (by rfl) (pad_cons (pd_v 1) (pad_cons (pd_v 9) pad_nil))).pv)
    (pssd_cons (psd_if (pwd_and (ptd_isNot (pd_v 4).pb pd_non.pb) (pwd_and1 (pwd_or (ptd_ne hr.units (pf_lc (own := [("row", 12)]) rfl sc.nd (pid_seq (pd_ix (pd_v 4).pb pd_int.pb)) (blkOk_by (N := ["draw", "length", "some", "wide", "best", "late", "line", "back", "half", "top", "base", "days", "row"]) (sc := defScope st__law_right) (by decide +kernel)) (fun _ _ _ _ _ => (pgd_name (i := 12) sc.nd rfl (.inl rfl))) (by decide) (fun _ _ _ _ _ => ptsd_nil) (fun _ _ _ _ _ => (pd_call D_age (hr.mono (by decide)) (by rfl) (pad_cons (pd_v 12) pad_nil)))).pd.pb (pd_mul (pf_lst (pad_cons (pd_ix (pd_v 4).pb pd_int.pb) pad_nil)).pd.pb (pd_len (by rfl) T.n_len (pab_cons (pd_ix (pd_v 4).pb pd_int.pb).pb pab_nil)).pb).pb) (pwd_or1 (ptd_ne hr.units (pf_lc (own := [("row", 12)]) rfl sc.nd (pid_seq (pd_v 2)) (blkOk_by (N := ["draw", "length", "some", "wide", "best", "late", "line", "back", "half", "top", "base", "days", "row"]) (sc := defScope st__law_right) (by decide +kernel)) (fun _ _ _ _ _ => (pgd_name (i := 12) sc.nd rfl (.inl rfl))) (by decide) (fun _ _ _ _ _ => ptsd_one (pwd_and (ptd_isNot (pd_call D_age (hr.mono (by decide)) (by rfl) (pad_cons (pd_v 12) pad_nil)).pb pd_non.pb) (pwd_and1 (ptd_gt (pd_call D_age (hr.mono (by decide)) (by rfl) (pad_cons (pd_v 12) pad_nil)).pb (pd_ix (pd_v 4).pb pd_int.pb).pb))).pt) (fun _ _ _ _ _ => (pd_v 12))).pd.pb (pf_lst pad_nil).pd.pb))).pt)).pt (pssd_one (psd_ret pd_bl)) pssd_nil)
    (pssd_cons (psd_par (i := 10) (j := 11) rfl sc.nd rfl rfl (by decide) rfl rfl (pd_call D__law_row (hr.mono (by decide)) (by rfl) (pad_cons (pd_v 0) (pad_cons pd_int pad_nil))).pv (pd_call D__law_take (hr.mono (by decide)) (by rfl) (pad_cons (pd_v 0) (pad_cons pd_int pad_nil))).pv (by rfl))
    (pssd_cons (psd_set (i := 5) sc.nd rfl (.inl rfl) (pd_call D_said_often (hr.mono (by decide)) (by rfl) (pad_cons (pd_v 10) (pad_cons (pd_v 11) pad_nil))).pv)
    (pssd_cons (psd_if (pwd_or (ptd_gt (pd_len (by rfl) T.n_len (pab_cons (pd_v 5).pb pab_nil)).pb pd_int.pb) (pwd_or1 (ptd_in (hu65 hr) (pd_v 5).pb (pf_lst (pad_cons (pd_tup pad_nil) (pad_cons (pd_tup (pad_cons pd_int (pad_cons pd_int pad_nil))) pad_nil))).pd.pb))).pt (pssd_one (psd_ret pd_bl)) pssd_nil)
    (pssd_cons (psd_set (i := 6) sc.nd rfl (.inl rfl) (pd_call D_elders (hr.mono (by decide)) (by rfl) (pad_cons (pd_v 5) pad_nil)).pv)
    (pssd_cons (psd_set (i := 7) sc.nd rfl (.inl rfl) (pd_ifExp (ptd_ne hr.units (pd_v 6).pb (pd_tup pad_nil).pb) (pd_call D__law_take (hr.mono (by decide)) (by rfl) (pad_cons (pd_v 0) (pad_cons (pd_len (by rfl) T.n_len (pab_cons (pd_v 6).pb pab_nil)) pad_nil))) pd_int).pv)
    (pssd_cons (psd_if (pwd_and (ptd_ne hr.units (pd_v 6).pb (pd_tup pad_nil).pb) (pwd_and (ptd_le (pd_len (by rfl) T.n_len (pab_cons (pd_ix (pd_v 6).pb (pd_v 7).pb).pb pab_nil)).pb pd_int.pb) (pwd_and1 (pwd_or (ptd_ne hr.units (pd_call D_meeting (hr.mono (by decide)) (by rfl) (pad_cons (pd_ix (pd_v 6).pb (pd_v 7).pb) (pad_cons (pd_v 5) pad_nil))).pb (pd_tup (pad_cons (pd_add (pd_v 7).pb pd_int.pb) (pad_cons pd_int pad_nil))).pb) (pwd_or1 (ptd_ne hr.units (pd_call D_meeting (hr.mono (by decide)) (by rfl) (pad_cons (pd_v 5) (pad_cons (pd_ix (pd_v 6).pb (pd_v 7).pb) pad_nil))).pb (pd_tup (pad_cons pd_int (pad_cons (pd_add (pd_v 7).pb pd_int.pb) pad_nil))).pb))).pt))).pt (pssd_one (psd_ret pd_bl)) pssd_nil)
    (pssd_one (psd_ret (pd_and (pd_eq hr.units (pd_call D_age (hr.mono (by decide)) (by rfl) (pad_cons (pd_v 5) pad_nil)).pb (pd_len (by rfl) T.n_len (pab_cons (pd_v 6).pb pab_nil)).pb).pb (pd_and (pd_le (pd_v 11).pb (pd_len (by rfl) T.n_len (pab_cons (pd_v 6).pb pab_nil)).pb).pb (pd_one (pd_eq hr.units (pd_call D_meeting (hr.mono (by decide)) (by rfl) (pad_cons (pd_v 5) (pad_cons (pd_v 5) pad_nil))).pb (pd_tup (pad_cons pd_int (pad_cons pd_int pad_nil))).pb)))))))))))))))))))))
    ?_ ?_
  · rintro ds Q ⟨rfl, _⟩
    rfl
  · rintro ds Q ⟨rfl, q⟩
    walk_at "rd"
    refine ⟨4, rfl, by decide, fun half a0 a1 => ?_⟩
    walk_at "rd"
    refine ⟨3, rfl, by decide, fun m m0 m1 => ?_⟩
    obtain ⟨h, rfl⟩ := Int.eq_ofNat_of_zero_le a0
    obtain ⟨t, rfl⟩ := Int.eq_ofNat_of_zero_le m0
    have F := fin48 (h := h) (t := t) (by omega) (by omega)
    walk_at "rd"
    refine ⟨mulS_l (by decide), ?_⟩
    have eh : (2 : Int) * (h : Nat) = ((2 * h : Nat) : Int) := by omega
    have et : (1 : Int) + (t : Nat) = ((t + 1 : Nat) : Int) := by omega
    have hm2 := F.many
    have hcount := F.count
    rw [eh, et]
    refine ⟨h, t + 1, 1, rfl, by omega, by omega, by omega, by decide, by decide, F.many, F.len, F.ok, ?_⟩
    have eS : (rowsL h (t + 1)).filter (agedB 1) = someL h (t + 1) := rfl
    rw [eS]
    have hS : ∀ r ∈ someL h (t + 1), r ∈ rowsL h (t + 1) := fun r hr => (List.mem_filter.mp hr).1
    have hlen : (someL h (t + 1)).length ≤ 10000 := Nat.le_trans (List.length_filter_le _ _) (F.len h (Nat.le_refl _))
    walk_at "rd"
    refine ⟨_, _, rfl, by omega, by omega, by omega, by omega, ?_⟩
    walk_at "rd"
    rw [← F.count]
    refine ifB_F (by simp) ?_
    refine lcI_of (xs := someL h (t + 1)) (enc := rowD) (fun _ => none) (by rw [sizeLine_eq]; show 0 + _ ≤ _; omega) (fun r hr K hK => ?_) ?_
    · walk_at "rd"
      refine ⟨r, rfl, F.row r (hS r hr), ?_⟩
      have he := F.el r hr
      cases hel : elderL r with
      | none => rw [hel] at he; cases he
      | some e => exact hK
    have en : ∀ l : List (List Int), l.filterMap (fun _ => (none : Option D)) = [] := fun l => by induction l <;> simp_all
    rw [en, List.append_nil]
    refine ⟨by decide, ⟨by decide, by decide⟩, ifB_F (by decide) ?_⟩
    have e0 : (List.replicate ((2 * h : Nat) : Int).toNat [D.int 0]).flatten = (List.replicate (2 * h) (0 : Int)).map D.int := by
      rw [Int.toNat_natCast, List.map_replicate]
      generalize 2 * h = n
      induction n with
      | zero => rfl
      | succ n ih => rw [List.replicate_succ, List.flatten_cons, ih]; rfl
    have hz : (2 ≤ ((2 * h : Nat) : Int) ∧ ((2 * h : Nat) : Int) ≤ 1000 ∧ 1 ≤ 1000) ∨ ((2 * h : Nat) : Int) = 0 := by omega
    have hsk : isSkB (List.replicate (2 * h) 0) = true := by
      unfold isSkB
      rw [Bool.and_eq_true, List.all_eq_true]
      refine ⟨decide_eq_true (by rw [List.length_replicate]; omega), fun x hx => ?_⟩
      rw [(List.mem_replicate.mp hx).2]
      decide
    rw [e0]
    refine ⟨by decide, by simp, hz, List.replicate (2 * h) 0, t + 1, rfl, hsk, by omega, by omega, by rw [F.sk, F.count]; exact F.many, fun _ => ⟨by rw [List.length_replicate]; omega, fun k hk => F.flen k (by rw [List.length_replicate] at hk; omega)⟩, ?_⟩
    rw [F.fill]
    refine ⟨⟨okD_rowsT _, okD_rowsT _⟩, ?_⟩
    rw [deq_rowsT, decide_eq_true rfl]
    refine ifB_F rfl ?_
    refine ⟨by decide, by simp, hz, List.replicate (2 * h) 0, t + 1, rfl, hsk, by omega, by omega, ?_⟩
    rw [F.sk]
    walk_at "rd"
    refine ifB_F (by simp) ?_
    refine ⟨h, t + 1, 2, rfl, by omega, by omega, by omega, by decide, by decide, F.many, F.len, F.ok, ?_⟩
    walk_at "rd"
    refine lcI_of (xs := someL h (t + 1)) (enc := rowD) (fun r => if (stillB r || decide (1 < ((esOf r).length : Int))) then some (rowD r) else none) (by rw [sizeLine_eq]; show 0 + _ ≤ _; omega) (fun r hr K hK => ?_) ?_
    · have hok := okRow_of (F.ok r (hS r hr))
      have hrow := F.row r (hS r hr)
      walk_at "rd"
      refine ⟨r, esOf r, rfl, hrow, hok, ?_⟩
      unfold ageD
      cases hb : stillB r with
      | true =>
        rw [hb, Bool.true_or, if_pos rfl] at hK
        exact hK
      | false =>
        rw [hb, Bool.false_or] at hK
        refine ⟨r, esOf r, rfl, hrow, hok, ?_⟩
        have e : ageD r (esOf r) = .int (esOf r).length := by unfold ageD; rw [hb]; rfl
        rw [e]
        show ifB (decide ((1 : Int) < (esOf r).length)) _ _
        refine ifB_i (fun h1 => ?_) (fun h1 => ?_)
        · rw [if_pos h1] at hK; exact hK
        · rw [if_neg (by rw [h1]; decide)] at hK; exact hK
    rw [List.nil_append, filter_lc, F.wide]
    refine ⟨⟨okD_rows _, okD_rows _⟩, ?_⟩
    rw [deq_rows, decide_eq_true rfl]
    refine ifB_F rfl ?_
    refine ⟨h, t + 1, rfl, by omega, by omega, by omega, F.many, F.len, F.ok, fun ho => ?_, fun m hm1 hm2 => ?_⟩
    rotate_left
    walk_at "rd"
    have ix1 : ∀ x y : D, atI [x, y] 1 = some y := fun _ _ => rfl
    have ix0 : ∀ x y : D, atI [x, y] 0 = some x := fun _ _ => rfl
    simp only [ix1, ix0]
    walk_at "rd"
    have hR : ∀ r ∈ (oldL h (t + 1)).filter (fun r => decide (((esOf r).length : Int) = m)), r ∈ rowsL h (t + 1) ∧ stillB r = false ∧ ((esOf r).length : Int) = m := fun r hr => by
      obtain ⟨h1, h2⟩ := List.mem_filter.mp hr
      obtain ⟨h3, h4⟩ := List.mem_filter.mp h1
      exact ⟨h3, by simpa using h4, of_decide_eq_true h2⟩
    have hRl : ((oldL h (t + 1)).filter (fun r => decide (((esOf r).length : Int) = m))).length ≤ 10000 := Nat.le_trans (List.length_filter_le _ _) (Nat.le_trans (List.length_filter_le _ _) (F.len h (Nat.le_refl _)))
    generalize (oldL h (t + 1)).filter (fun r => decide (((esOf r).length : Int) = m)) = R at hR hRl ⊢
    refine lcI_map (xs := R) (enc := rowD) (fun _ => .int m) (by rw [sizeLine_eq]; show 0 + _ ≤ _; omega) (fun r hr K hK => ?_) ?_
    · obtain ⟨r1, r2, r3⟩ := hR r hr
      refine ⟨r, esOf r, rfl, F.row r r1, okRow_of (F.ok r r1), ?_⟩
      have e : ageD r (esOf r) = .int m := by unfold ageD; rw [r2, r3]; rfl
      rw [e]
      exact hK
    rw [List.nil_append]
    (try simp only [vIx_tup, ix1, ix0, optQ_some])
    (try walk_at "rd")
    have eR : (List.replicate ((R.length : Nat) : Int).toNat [D.int m]).flatten = (List.replicate R.length m).map D.int := by
      rw [Int.toNat_natCast, List.map_replicate]
      generalize R.length = n
      induction n with
      | zero => rfl
      | succ n ih => rw [List.replicate_succ, List.flatten_cons, ih]; rfl
    have eR2 : R.map (fun _ => D.int m) = (List.replicate R.length m).map D.int := by
      rw [List.map_replicate, List.map_const']
    rw [eR, eR2]
    refine ⟨by decide, by omega, by omega, by rw [sizeLine_eq, Int.toNat_natCast]; omega, ⟨okD_intsL _, okD_intsL _⟩, ?_⟩
    rw [deq_intsL, decide_eq_true rfl]
    refine ifB_F rfl ?_
    refine lcI_of (xs := someL h (t + 1)) (enc := rowD) (fun _ => none) (by rw [sizeLine_eq]; show 0 + _ ≤ _; omega) (fun r hr K hK => ?_) ?_
    · have hok := okRow_of (F.ok r (hS r hr))
      have hrow := F.row r (hS r hr)
      walk_at "rd"
      refine ⟨r, esOf r, rfl, hrow, hok, ?_⟩
      cases hb : stillB r with
      | true =>
        have e : ageD r (esOf r) = .non := by unfold ageD; rw [hb]; rfl
        rw [e]
        exact hK
      | false =>
        have e : ageD r (esOf r) = .int (esOf r).length := by unfold ageD; rw [hb]; rfl
        rw [e]
        refine ⟨r, esOf r, rfl, hrow, hok, ?_⟩
        rw [e]
        walk_at "rd"
        simp only [ix1, ix0]
        walk_at "rd"
        refine ifB_F (decide_eq_false ?_) hK
        have := hm2 r (List.mem_filter.mpr ⟨hS r hr, by rw [hb]; rfl⟩)
        omega
    rw [en, List.append_nil]
    refine ⟨by decide, ⟨by decide, by decide⟩, ifB_F (by decide) ?_⟩
    all_goals
      (try walk_at "rd")
      refine ⟨4, rfl, by decide, by decide, fun base hb => ?_⟩
      walk_at "rd"
      refine ⟨5, rfl, by decide, fun days d0 d1 => ?_⟩
      obtain ⟨n, rfl⟩ := Int.eq_ofNat_of_zero_le d0
      have hrow := hb.isRow (by decide)
      have hl4 : base.length ≤ 4 := by have := hb.len; omega
      have hb99 : ∀ x ∈ base, 1 ≤ x ∧ x ≤ 99 := fun x hx => ⟨isRow_pos hrow x hx, isRow_top hrow x hx⟩
      have hsz : ∀ k : Nat, k ≤ 4 → (sayN k base).length ≤ 64 := fun k hk => by
        have h2 := sayN_len base k
        have h3 : 2 ^ k ≤ 2 ^ 4 := Nat.pow_le_pow_right (by decide) hk
        have h4 : 2 ^ k * base.length ≤ 2 ^ 4 * 4 := Nat.mul_le_mul h3 hl4
        omega
      have hsay : ∀ k : Nat, k ≤ 4 → Pos1 (sayN k base) ∧ (sayN k base).length ≤ 100000 ∧ (unsay (sayN k base)).length ≤ 1000000 := fun k hk => by
        have h1 := (small99 hb99 (by omega) k).1
        have h2 := hsz k hk
        have h3 := unsay_len (m := 99) (r := sayN k base) fun x hx => (h1 x hx).2
        exact ⟨fun x hx => (h1 x hx).1, by omega, by omega⟩
      have hn4 : n ≤ 4 := by omega
      refine ⟨base, n, rfl, hrow, d0, by omega, fun k hk => by have := hsz k (by omega); omega, ?_⟩
      rw [Int.toNat_natCast]
      walk_at "rd"
      refine ifB_d (fun _ => q) (fun h60 => ?_)
      refine ⟨by decide, by decide, by decide, ⟨okD_row _, by decide⟩, ?_⟩
      show ifB (dIn (rowD (sayN n base)) (([[], [2, 2]] : List (List Int)).map rowD)) _ _
      rw [dIn_row]
      show ifB (stillB (sayN n base)) _ _
      refine ifB_i (fun _ => q) (fun hst => ?_)
      have hbs : stillB base = false := by
        cases hx : stillB base with
        | false => rfl
        | true =>
          have hm : base ∈ ([[], [2, 2]] : List (List Int)) := of_decide_eq_true hx
          rcases List.mem_cons.mp hm with z | z
          · exact absurd z hb.ne
          · rw [List.mem_singleton.mp z, sayN_still] at hst
            exact absurd hst (by decide)
      have hok := okRow_of (List.all_eq_true.mp rows8_ok base hb.mem4)
      rw [hbs] at hok
      obtain ⟨hE, hC⟩ := hok.resolve_left Bool.false_ne_true
      obtain ⟨fs, fE, fl, fn, fb⟩ := hE.sayN (isRow_pos hrow) n
      have hrl : isRowB (sayN n base) = true := by
        unfold isRowB
        rw [Bool.and_eq_true, List.all_eq_true]
        refine ⟨decide_eq_true (by omega), fun x hx => ?_⟩
        have := (small99 hb99 (by omega) n).1 x hx
        rw [decide_eq_true this.1, decide_eq_true this.2]; rfl
      have hC2 : ChainOk (sayN n base) fs := by
        have hcl := hC.2
        refine ⟨fun e he => ?_, by have := esOf_len base; omega⟩
        rcases List.mem_cons.mp he with rfl | he
        · exact hsay n hn4
        · obtain ⟨k, hk⟩ := List.getElem?_of_mem he
          by_cases hkn : k < n
          · rw [fn k hkn] at hk
            cases hk
            exact hsay _ (by omega)
          · have := fb (k - n)
            rw [show n + (k - n) = k by omega, hk] at this
            exact hC.1 e (List.mem_cons_of_mem _ (List.mem_of_getElem? this.symm))
      have hTop : ∀ e ∈ fs, ∀ x ∈ e, 1 ≤ x ∧ x ≤ 99 := fun e he => by
        obtain ⟨k, hk⟩ := List.getElem?_of_mem he
        by_cases hkn : k < n
        · rw [fn k hkn] at hk
          cases hk
          exact (small99 hb99 (by omega) _).1
        · have := fb (k - n)
          rw [show n + (k - n) = k by omega, hk] at this
          exact esOf_top (List.all_eq_true.mp rows8_ok base hb.mem4) hbs e (List.mem_of_getElem? this.symm)
      have hnl : n ≤ fs.length := by omega
      have hfl : fs.length ≤ 100000 := hC2.2
      clear fn fb hE hC hok fl
      generalize sayN n base = late at h60 hst fE hrl hC2 ⊢
      refine ⟨late, fs, rfl, hrl, hst, fE, hC2, ?_⟩
      walk_at "rd"
      have edq : deq (.tup (fs.map rowD)) (.tup []) = decide (fs = []) := deq_rowsT fs []
      refine ⟨by decide, ⟨okD_rowsT fs, by decide⟩, ?_⟩
      rw [edq]
      refine ifB_i (fun hne => ?_) (fun hne => ?_)
      · have hne : fs ≠ [] := by simpa using hne
        refine ⟨fs.length, rfl, by omega, fun b b0 b1 => ?_⟩
        have hpos : 0 < fs.length := List.length_pos_iff.mpr hne
        obtain ⟨k, rfl⟩ := Int.eq_ofNat_of_zero_le b0
        have hk : k < fs.length := by omega
        have hfk : fs[k]? = some fs[k] := List.getElem?_eq_getElem hk
        generalize fs[k] = e at hfk
        walk_at "rd"
        refine ⟨by decide, ⟨okD_rowsT fs, by decide⟩, ?_⟩
        (try rw [edq])
        refine ifB_T (by simpa using hne) ?_
        have hat : atI fs (k : Int) = some e := atI_nat hfk
        simp only [atI_map, hat]
        walk_at "rd"
        refine ifB_d (fun he60 => ?_) (fun _ => ?_)
        · have hce := hC2.drop hfk
          have hre : isRowB e = true := by
            unfold isRowB
            rw [Bool.and_eq_true, List.all_eq_true]
            refine ⟨decide_eq_true (by omega), fun x hx => ?_⟩
            have := hTop e (List.mem_of_getElem? hfk) x hx
            rw [decide_eq_true this.1, decide_eq_true this.2]; rfl
          refine ⟨e, late, fs, fs.drop (k + 1), rfl, hre, hrl, .inr ⟨fE, hC2⟩, .inr ⟨fE.drop hfk, hce⟩, ?_⟩
          rw [meet_back fE hfk]
          walk_at "rd"
          refine ⟨by decide, ⟨okD_row [(k : Int) + 1, 0], okD_row [(k : Int) + 1, 0]⟩, ?_⟩
          have dq : ∀ x y : Int, deq (.tup [.int x, .int y]) (.tup [.int x, .int y]) = true := fun x y => by
            have := deq_row [x, y] [x, y]
            rw [decide_eq_true rfl] at this
            exact this
          rw [dq]
          refine ifB_F rfl ?_
          (try simp only [atI_map, hat])
          (try walk_at "rd")
          refine ⟨late, e, fs.drop (k + 1), fs, rfl, hrl, hre, .inr ⟨fE.drop hfk, hce⟩, .inr ⟨fE, hC2⟩, ?_⟩
          rw [meet_ahead fE hfk]
          walk_at "rd"
          refine ⟨by decide, ⟨okD_row [0, (k : Int) + 1], okD_row [0, (k : Int) + 1]⟩, ?_⟩
          rw [dq]
          refine ifB_F rfl ?_
          refine ⟨late, fs, rfl, hrl, .inr ⟨fE, hC2⟩, ?_⟩
          have eA : ageD late fs = .int fs.length := by unfold ageD; rw [hst]; rfl
          rw [eA]
          walk_at "rd"
          refine ifB_T (by simp) ?_
          refine ifB_T (decide_eq_true (by omega)) ?_
          refine ⟨late, late, fs, fs, rfl, hrl, hrl, .inr ⟨fE, hC2⟩, .inr ⟨fE, hC2⟩, ?_⟩
          rw [meet_same]
          exact ⟨by rw [sizeLine_eq]; decide, ⟨by decide, by decide⟩, q⟩
        · refine ⟨late, fs, rfl, hrl, .inr ⟨fE, hC2⟩, ?_⟩
          have eA : ageD late fs = .int fs.length := by unfold ageD; rw [hst]; rfl
          rw [eA]
          walk_at "rd"
          refine ifB_T (by simp) ?_
          refine ifB_T (decide_eq_true (by omega)) ?_
          refine ⟨late, late, fs, fs, rfl, hrl, hrl, .inr ⟨fE, hC2⟩, .inr ⟨fE, hC2⟩, ?_⟩
          rw [meet_same]
          exact ⟨by rw [sizeLine_eq]; decide, ⟨by decide, by decide⟩, q⟩
      · have hne : fs = [] := by simpa using hne
        subst hne
        have hn0 : n = 0 := by simpa using hnl
        subst hn0
        walk_at "rd"
        refine ⟨by decide, ⟨by decide, by decide⟩, ?_⟩
        refine ifB_F (by decide) ?_
        refine ⟨late, ([] : List (List Int)), rfl, hrl, .inr ⟨fE, hC2⟩, ?_⟩
        have eA : ageD late ([] : List (List Int)) = .int ([] : List (List Int)).length := by unfold ageD; rw [hst]; rfl
        rw [eA]
        walk_at "rd"
        refine ifB_T (by simp) ?_
        refine ifB_T (decide_eq_true (by omega)) ?_
        refine ⟨late, late, ([] : List (List Int)), ([] : List (List Int)), rfl, hrl, hrl, .inr ⟨fE, hC2⟩, .inr ⟨fE, hC2⟩, ?_⟩
        rw [meet_same]
        exact ⟨by rw [sizeLine_eq]; decide, ⟨by decide, by decide⟩, q⟩
abbrev st__law_begun : Stmt := topS 63
theorem sc__law_begun : FnScope ["script", "cell", "whole", "cells"] ["script"] (defScope st__law_begun) := ⟨rfl, rfl, rfl, by decide +kernel, rfl, by decide +kernel, by decide +kernel⟩
set_option maxHeartbeats 4000000 in
theorem df__law_begun (F : FunAt K mg "_law_begun" "_law_begun" st__law_begun ["script"]) (T : Txt K mg)  : Df P w K mg base 1 "_law_begun" (sp__law_begun P w) := by
  have sc := sc__law_begun
  refine Df.of F sc__law_begun _ (fun f cdv A outer s H E hr =>
    (pssd_cons (psd_par (i := 2) (j := 3) rfl sc.nd rfl rfl (by decide) rfl rfl pd_int.pv (pf_lst pad_nil).pv (by rfl))
    (pssd_cons (psd_for PassesOwn.never rfl (pid_seq (pd_v 0)) (pgd_name (i := 1) sc.nd rfl (.inl rfl))
    (pssd_one (psd_if (ptd_isi (T := "int") (by decide) (by rfl) T.n_isinstance (by rfl) T.n_int (by decide +kernel) (pd_v 1).pb) (pssd_cons (psd_if (ptd_ge (pd_v 1).pb (pd_pow pd_int.pb pd_int.pb).pb) (pssd_one (psd_set (i := 2) sc.nd rfl (.inl rfl) (pd_add (pd_mul (pd_v 2).pb (pd_add (pd_sub (pd_v 1).pb (pd_pow pd_int.pb pd_int.pb).pb).pb pd_int.pb).pb).pb (pd_sub (pd_v 1).pb (pd_pow pd_int.pb pd_int.pb).pb).pb).pv)) pssd_nil)
    (pssd_one (psd_app 3 (pd_v 1)))) pssd_nil)))
    (pssd_one (psd_frz 3 (psd_ret (pd_drwNew P w (pd_v 2) (pd_v 3) pd_int)))))))
    ?_ ?_
  · rintro ds Q ⟨_, _, rfl, _⟩
    rfl
  · rintro ds Q ⟨b, cs, rfl, hl, hb, hc, q⟩
    walk_at "rd"
    refine ⟨by decide, ?_⟩
    refine forI_fold (xs := cs) (enc := D.int) (β := Int × List Int) (fun acc (c : Sl) => [.dat (.scr (cs.map D.int)), c, .dat (.int acc.1), .own (.lst (acc.2.map D.int))]) (fun acc x => (if x ≥ 10 ^ 18 then acc.1 * (x - 10 ^ 18 + 1) + (x - 10 ^ 18) else acc.1, acc.2 ++ [x])) (0, []) Sl.no rfl (fun pre x post hx c K hK => ?_) (fun c => ?_)
    · have hpre := begun_inv hc pre (fun y hy => by rw [hx]; exact List.mem_append_left _ hy)
      have hxb : x.natAbs < 2 ^ b := hc x (by rw [hx]; simp)
      have hlt : pre.length + 1 ≤ cs.length := by rw [hx]; simp
      generalize List.foldl _ ((0 : Int), ([] : List Int)) pre = acc at hK hpre ⊢
      obtain ⟨p1, p2, p3⟩ := hpre
      walk_at "rd"
      refine ⟨cp, ?_⟩
      refine ifB_d (fun h => ?_) (fun h => ?_)
      · have h' : x ≥ 10 ^ 18 := h
        rw [if_pos h'] at hK
        refine ⟨cp, ?_, cp, ?_, ?_⟩
        · exact begun_mul p1 p2 (by omega) hb h' hxb
        · rw [p3, sizeLine_eq]; omega
        · have := hK (.dat (.int x))
          rw [List.map_append] at this
          exact this
      · have h' : ¬ x ≥ 10 ^ 18 := h
        rw [if_neg h'] at hK
        refine ⟨by rw [p3, sizeLine_eq]; omega, ?_⟩
        have := hK (.dat (.int x))
        rw [List.map_append] at this
        exact this
    · have hpre := begun_inv hc cs (fun y hy => hy)
      generalize List.foldl _ ((0 : Int), ([] : List Int)) cs = acc at hpre ⊢
      walk_at "rd"
      exact ⟨⟨_, rfl⟩, ⟨_, rfl, by rw [hpre.2.2]; omega⟩, ⟨_, rfl⟩, q⟩
abbrev st_law : Stmt := topS 74
theorem sc_law : FnScope ["script", "draw", "lap", "told"] ["script"] (defScope st_law) := ⟨rfl, rfl, rfl, by decide +kernel, rfl, by decide +kernel, by decide +kernel⟩
set_option maxHeartbeats 4000000 in
theorem fn_law {f : Addr} {fd : FuncData} (F : Fun K "law" "law" st_law f fd) (T : Txt K mg) (D__law_says : Df P w K mg base 2 "_law_says" sp__law_says) (D_age : Df P w K mg base 5 "age" sp_age) (D_meeting : Df P w K mg base 5 "meeting" sp_meeting) (D_aged_rows : Df P w K mg base 6 "aged_rows" sp_aged_rows) (D_many_with_elder : Df P w K mg base 3 "many_with_elder" sp_many_with_elder) (D__law_right : Df P w K mg base 7 "_law_right" (sp__law_right P w)) (D__law_begun : Df P w K mg base 1 "_law_begun" (sp__law_begun P w)) : FnOk P w K mg base CX0 8 f fd ["script"] (spOf K sp_script) := by
  have sc := sc_law
  refine fnOf_def F sc_law _ (fun f cdv A outer s H E hr =>
    (pssd_cons (psd_set (i := 1) sc.nd rfl (.inl rfl) (pd_call D__law_begun (hr.mono (by decide)) (by rfl) (pad_cons (pd_v 0) pad_nil)).pv)
    (pssd_cons (psd_for PassesOwn.never rfl (pid_rng1 (by rfl) T.n_range (pd_add pd_int.pb (pd_min2 rfl (by rfl) T.n_min (pab_cons (pd_len (by rfl) T.n_len (pab_cons (pd_v 0).pb pab_nil)).pb (pab_cons pd_int.pb pab_nil))).pb)) (pgd_name (i := 2) sc.nd rfl (.inl rfl))
    (pssd_one (psd_if (ptd_not (ptd_val (pd_call D__law_right (hr.mono (by decide)) (by rfl) (pad_cons (pd_v 1) pad_nil)).pb)) (pssd_one (psd_ret pd_bl)) pssd_nil)))
    (pssd_cons (psd_set (i := 3) sc.nd rfl (.inl rfl) (pf_lst (pad_cons (pd_call D_many_with_elder (hr.mono (by decide)) (by rfl) (pad_cons pd_int (pad_cons pd_int pad_nil))) (pad_cons (pd_call D_many_with_elder (hr.mono (by decide)) (by rfl) (pad_cons pd_int (pad_cons pd_int pad_nil))) (pad_cons (pd_call D_aged_rows (hr.mono (by decide)) (by rfl) (pad_cons pd_int (pad_cons pd_int (pad_cons pd_int pad_nil)))) (pad_cons (pd_call D_meeting (hr.mono (by decide)) (by rfl) (pad_cons (pd_tup (pad_cons pd_int pad_nil)) (pad_cons (pd_tup (pad_cons pd_int (pad_cons pd_int pad_nil))) pad_nil))) (pad_cons (pd_call D_meeting (hr.mono (by decide)) (by rfl) (pad_cons (pd_tup (pad_cons pd_int pad_nil)) (pad_cons (pd_tup (pad_cons pd_int pad_nil)) pad_nil))) (pad_cons (pd_call D_age (hr.mono (by decide)) (by rfl) (pad_cons (pd_tup (pad_cons pd_int (pad_cons pd_int pad_nil))) pad_nil)) pad_nil))))))).pd.pv)
    (pssd_one (psd_ret (pd_call D__law_says (hr.mono (by decide)) (by rfl) (pad_cons (pd_v 3) (pad_cons (pf_lst (pad_cons pd_int (pad_cons pd_int (pad_cons (pd_tup (pad_cons (pd_tup (pad_cons pd_int (pad_cons pd_int pad_nil))) (pad_cons (pd_tup (pad_cons pd_int (pad_cons pd_int pad_nil))) pad_nil))) (pad_cons (pd_tup (pad_cons pd_int (pad_cons pd_int pad_nil))) (pad_cons pd_non (pad_cons pd_int pad_nil))))))).pd pad_nil)))))))))
    ?_ ?_
  · rintro ds Q ⟨_, _, rfl, _⟩
    rfl
  · rintro ds Q ⟨b, cs, rfl, hl, hb, hc, q⟩
    refine ⟨b, cs, rfl, hl, hb, hc, ?_⟩
    walk_at "rd"
    generalize hN : (3 + if (6 : Int) < (cs.length : Nat) then (6 : Int) else (cs.length : Nat)) = N
    have hN2 : 0 ≤ N ∧ N ≤ 9 := by split at hN <;> omega
    refine ⟨⟨by omega, by omega⟩, ?_⟩
    refine forI_fold (xs := List.range N.toNat) (enc := fun i : Nat => D.int (0 + (i : Nat))) (β := Unit) (fun _ c => [.dat (.scr (cs.map D.int)), .dat (drw P w), c, .no]) (fun _ _ => ()) () Sl.no rfl (fun pre x post hx c K hK => ?_) (fun c => ?_)
    · walk_at "rd"
      refine ⟨rfl, ?_⟩
      exact hK _
    · walk_at "rd"
      refine ⟨2, 2, rfl, by decide, by decide, by decide, by decide, 3, 5, rfl, by decide, by decide, by decide, by decide, ?_⟩
      refine ⟨1, 2, 2, rfl, by decide, by decide, by decide, by decide, by decide, by decide +kernel, by decide +kernel, by decide +kernel, ?_⟩
      have el1 : Elders [1] [] := eldersF_ok 20 _ _ (by decide +kernel)
      have ck1 : ChainOk [1] [] := chainOk_of (by decide +kernel)
      have el11 : Elders [1, 1] [[1]] := eldersF_ok 20 _ _ (by decide +kernel)
      have ck11 : ChainOk [1, 1] [[1]] := chainOk_of (by decide +kernel)
      have el3 : Elders [3] [] := eldersF_ok 20 _ _ (by decide +kernel)
      have ck3 : ChainOk [3] [] := chainOk_of (by decide +kernel)
      have el21 : Elders [2, 1] [[1, 1], [1]] := eldersF_ok 20 _ _ (by decide +kernel)
      have ck21 : ChainOk [2, 1] [[1, 1], [1]] := chainOk_of (by decide +kernel)
      have e1 : manyL 2 2 = 4 := by decide +kernel
      have e2 : manyL 3 5 = 0 := by decide +kernel
      have e3 : (rowsL 1 2).filter (agedB 2) = [[2, 1], [2, 2]] := by decide +kernel
      have e4 : ∀ b : Bool, (if b then ([] : List (List Int)) else []) = [] := fun b => by cases b <;> rfl
      have e5 : meetD [1] [1, 1] [[1]] [] = .tup [.int 1, .int 0] := meet_back el11 (k := 0) rfl
      have e6 : meetD [1] [3] [] [] = .non := by
        unfold meetD
        rw [if_neg (by decide), e4, e4]; rfl
      have e7 : ageD [2, 1] [[1, 1], [1]] = .int 2 := by unfold ageD; rw [el21.notStill]; rfl
      rw [e1, e2, e3]
      refine ⟨by decide, by decide, [1], [1, 1], [[1]], [], rfl, by decide, by decide, .inr ⟨el11, ck11⟩, .inr ⟨el1, ck1⟩, ?_⟩
      rw [e5]
      refine ⟨by decide, by decide, [1], [3], [], [], rfl, by decide, by decide, .inr ⟨el3, ck3⟩, .inr ⟨el1, ck1⟩, ?_⟩
      rw [e6]
      refine ⟨by decide, [2, 1], [[1, 1], [1]], rfl, by decide, .inr ⟨el21, ck21⟩, ?_⟩
      rw [e7]
      refine ⟨by decide, by decide, by decide, by decide, by decide, by decide, ?_⟩
      refine ⟨_, rfl, ⟨rfl, rfl, ?_⟩, ?_, q⟩
      · decide +kernel
      · decide +kernel
end
set_option maxHeartbeats 0 in
theorem all_mk {l : PySem.W.OpenLaw} {w : World} {K : PySem.W.Frag} {h : Heap} {mg : Str → Option Value} {fa : Addr} (X : K.In h) (G : h.Ns mainGlobals mg) (hfa : mg "law" = some (.ref fa))
    {f0 f1 f2 f3 f4 f5 f6 f7 f8 f9 f10 f11 f12 f13 f14 f15 f16 f17 f18 f19 f20 f21 f22 f23 f24 f25 f26 f27 f28 f29 f30 f31 f32 f33 f34 f35 f36 f37 f38 f39 f40 f41 f42 f43 f44 f45 f46 uSTILL_0 uSTILL_1 uSTILL : Addr}
    {od0 an0 od1 an1 od2 an2 od3 an3 od4 an4 od5 an5 od6 an6 od7 an7 od8 an8 od9 an9 od10 an10 od11 an11 od12 an12 od13 an13 od14 an14 od15 an15 od16 an16 od17 an17 od18 an18 od19 an19 od20 an20 od21 an21 od22 an22 od23 an23 od24 an24 od25 an25 od26 an26 od27 an27 od28 an28 od29 an29 od30 an30 od31 an31 od32 an32 od33 an33 od34 an34 od35 an35 od36 an36 od37 an37 od38 an38 od39 an39 od40 an40 od41 an41 od42 an42 od43 an43 od44 an44 od45 an45 od46 an46 duSTILL_0 duSTILL_1 duSTILL : Option Addr}
    {sl0 sl1 sl2 sl3 sl4 sl5 sl6 sl7 sl8 sl9 sl10 sl11 sl12 sl13 sl14 sl15 sl16 sl17 sl18 sl19 sl20 sl21 sl22 sl23 sl24 sl25 sl26 sl27 sl28 sl29 sl30 sl31 sl32 sl33 sl34 sl35 sl36 sl37 sl38 sl39 sl40 sl41 sl42 sl43 sl44 sl45 sl46 suSTILL_0 suSTILL_1 suSTILL : Array (Option Value)}
    {oc0 kV0 dc0 pm0 cd0 ct0 oc1 kV1 dc1 pm1 cd1 ct1 oc2 kV2 dc2 pm2 cd2 ct2 oc3 kV3 dc3 pm3 cd3 ct3 oc4 kV4 dc4 pm4 cd4 ct4 oc5 kV5 dc5 pm5 cd5 ct5 oc6 kV6 dc6 pm6 cd6 ct6 oc7 kV7 dc7 pm7 cd7 ct7 oc8 kV8 dc8 pm8 cd8 ct8 oc9 kV9 dc9 pm9 cd9 ct9 oc10 kV10 dc10 pm10 cd10 ct10 oc11 kV11 dc11 pm11 cd11 ct11 oc12 kV12 dc12 pm12 cd12 ct12 oc13 kV13 dc13 pm13 cd13 ct13 oc14 kV14 dc14 pm14 cd14 ct14 oc15 kV15 dc15 pm15 cd15 ct15 oc16 kV16 dc16 pm16 cd16 ct16 oc17 kV17 dc17 pm17 cd17 ct17 oc18 kV18 dc18 pm18 cd18 ct18 oc19 kV19 dc19 pm19 cd19 ct19 oc20 kV20 dc20 pm20 cd20 ct20 oc21 kV21 dc21 pm21 cd21 ct21 oc22 kV22 dc22 pm22 cd22 ct22 oc23 kV23 dc23 pm23 cd23 ct23 oc24 kV24 dc24 pm24 cd24 ct24 oc25 kV25 dc25 pm25 cd25 ct25 oc26 kV26 dc26 pm26 cd26 ct26 oc27 kV27 dc27 pm27 cd27 ct27 oc28 kV28 dc28 pm28 cd28 ct28 oc29 kV29 dc29 pm29 cd29 ct29 oc30 kV30 dc30 pm30 cd30 ct30 oc31 kV31 dc31 pm31 cd31 ct31 oc32 kV32 dc32 pm32 cd32 ct32 oc33 kV33 dc33 pm33 cd33 ct33 oc34 kV34 dc34 pm34 cd34 ct34 oc35 kV35 dc35 pm35 cd35 ct35 oc36 kV36 dc36 pm36 cd36 ct36 oc37 kV37 dc37 pm37 cd37 ct37 oc38 kV38 dc38 pm38 cd38 ct38 oc39 kV39 dc39 pm39 cd39 ct39 oc40 kV40 dc40 pm40 cd40 ct40 oc41 kV41 dc41 pm41 cd41 ct41 oc42 kV42 dc42 pm42 cd42 ct42 oc43 kV43 dc43 pm43 cd43 ct43 oc44 kV44 dc44 pm44 cd44 ct44 oc45 kV45 dc45 pm45 cd45 ct45 oc46 kV46 dc46 pm46 cd46 ct46 : Value}
    {tkMOST_DAYS tkMOST_LEAST tkMOST_LONG tkMOST_NUMBER tkMOST_NUMBERS tkMOST_TOLD tuSTILL_1_0 tuSTILL_1_1 : Tok}
    {nuSTILL_0 nuSTILL_1 nuSTILL : Nat}
    (a0 : PySem.W.nsIn K mainGlobals "_law_kinds" = some (some (.ref f0)))
    (l0 : K.lookup f0 = some ⟨oc0, od0, .func (PySem.W.fnOf "_law_kinds" "_law_kinds" (defArgs st__law_kinds) (defBody st__law_kinds) (defScope st__law_kinds) .none kV0 dc0 pm0 an0 cd0 ct0), sl0⟩)
    (c0 : PySem.W.codeIn K cd0 "_law_kinds" = true)
    (k0 : PySem.W.keepIn K (.ref f0) = true)
    (a1 : PySem.W.nsIn K mainGlobals "_law_says" = some (some (.ref f1)))
    (l1 : K.lookup f1 = some ⟨oc1, od1, .func (PySem.W.fnOf "_law_says" "_law_says" (defArgs st__law_says) (defBody st__law_says) (defScope st__law_says) .none kV1 dc1 pm1 an1 cd1 ct1), sl1⟩)
    (c1 : PySem.W.codeIn K cd1 "_law_says" = true)
    (k1 : PySem.W.keepIn K (.ref f1) = true)
    (a2 : PySem.W.nsIn K mainGlobals "bar_by" = some (some (.ref f2)))
    (l2 : K.lookup f2 = some ⟨oc2, od2, .func (PySem.W.fnOf "bar_by" "bar_by" (defArgs st_bar_by) (defBody st_bar_by) (defScope st_bar_by) .none kV2 dc2 pm2 an2 cd2 ct2), sl2⟩)
    (c2 : PySem.W.codeIn K cd2 "bar_by" = true)
    (k2 : PySem.W.keepIn K (.ref f2) = true)
    (a3 : PySem.W.nsIn K mainGlobals "elder_by" = some (some (.ref f3)))
    (l3 : K.lookup f3 = some ⟨oc3, od3, .func (PySem.W.fnOf "elder_by" "elder_by" (defArgs st_elder_by) (defBody st_elder_by) (defScope st_elder_by) .none kV3 dc3 pm3 an3 cd3 ct3), sl3⟩)
    (c3 : PySem.W.codeIn K cd3 "elder_by" = true)
    (k3 : PySem.W.keepIn K (.ref f3) = true)
    (a4 : PySem.W.nsIn K mainGlobals "elders_by" = some (some (.ref f4)))
    (l4 : K.lookup f4 = some ⟨oc4, od4, .func (PySem.W.fnOf "elders_by" "elders_by" (defArgs st_elders_by) (defBody st_elders_by) (defScope st_elders_by) .none kV4 dc4 pm4 an4 cd4 ct4), sl4⟩)
    (c4 : PySem.W.codeIn K cd4 "elders_by" = true)
    (k4 : PySem.W.keepIn K (.ref f4) = true)
    (a5 : PySem.W.nsIn K mainGlobals "age_by_elders" = some (some (.ref f5)))
    (l5 : K.lookup f5 = some ⟨oc5, od5, .func (PySem.W.fnOf "age_by" "age_by" (defArgs st_age_by_elders) (defBody st_age_by_elders) (defScope st_age_by_elders) .none kV5 dc5 pm5 an5 cd5 ct5), sl5⟩)
    (c5 : PySem.W.codeIn K cd5 "age_by" = true)
    (k5 : PySem.W.keepIn K (.ref f5) = true)
    (a6 : PySem.W.nsIn K mainGlobals "is_whole" = some (some (.ref f6)))
    (l6 : K.lookup f6 = some ⟨oc6, od6, .func (PySem.W.fnOf "is_whole" "is_whole" (defArgs st_is_whole) (defBody st_is_whole) (defScope st_is_whole) .none kV6 dc6 pm6 an6 cd6 ct6), sl6⟩)
    (c6 : PySem.W.codeIn K cd6 "is_whole" = true)
    (k6 : PySem.W.keepIn K (.ref f6) = true)
    (a7 : PySem.W.nsIn K mainGlobals "is_row_of" = some (some (.ref f7)))
    (l7 : K.lookup f7 = some ⟨oc7, od7, .func (PySem.W.fnOf "is_row_of" "is_row_of" (defArgs st_is_row_of) (defBody st_is_row_of) (defScope st_is_row_of) .none kV7 dc7 pm7 an7 cd7 ct7), sl7⟩)
    (c7 : PySem.W.codeIn K cd7 "is_row_of" = true)
    (k7 : PySem.W.keepIn K (.ref f7) = true)
    (a8 : PySem.W.nsIn K mainGlobals "need_row" = some (some (.ref f8)))
    (l8 : K.lookup f8 = some ⟨oc8, od8, .func (PySem.W.fnOf "need_row" "need_row" (defArgs st_need_row) (defBody st_need_row) (defScope st_need_row) .none kV8 dc8 pm8 an8 cd8 ct8), sl8⟩)
    (c8 : PySem.W.codeIn K cd8 "need_row" = true)
    (k8 : PySem.W.keepIn K (.ref f8) = true)
    (a9 : PySem.W.nsIn K mainGlobals "age" = some (some (.ref f9)))
    (l9 : K.lookup f9 = some ⟨oc9, od9, .func (PySem.W.fnOf "age" "age" (defArgs st_age) (defBody st_age) (defScope st_age) .none kV9 dc9 pm9 an9 cd9 ct9), sl9⟩)
    (c9 : PySem.W.codeIn K cd9 "age" = true)
    (k9 : PySem.W.keepIn K (.ref f9) = true)
    (a10 : PySem.W.nsIn K mainGlobals "place_among" = some (some (.ref f10)))
    (l10 : K.lookup f10 = some ⟨oc10, od10, .func (PySem.W.fnOf "place_among" "place_among" (defArgs st_place_among) (defBody st_place_among) (defScope st_place_among) .none kV10 dc10 pm10 an10 cd10 ct10), sl10⟩)
    (c10 : PySem.W.codeIn K cd10 "place_among" = true)
    (k10 : PySem.W.keepIn K (.ref f10) = true)
    (a11 : PySem.W.nsIn K mainGlobals "need_both" = some (some (.ref f11)))
    (l11 : K.lookup f11 = some ⟨oc11, od11, .func (PySem.W.fnOf "need_both" "need_both" (defArgs st_need_both) (defBody st_need_both) (defScope st_need_both) .none kV11 dc11 pm11 an11 cd11 ct11), sl11⟩)
    (c11 : PySem.W.codeIn K cd11 "need_both" = true)
    (k11 : PySem.W.keepIn K (.ref f11) = true)
    (a12 : PySem.W.nsIn K mainGlobals "meeting" = some (some (.ref f12)))
    (l12 : K.lookup f12 = some ⟨oc12, od12, .func (PySem.W.fnOf "meeting" "meeting" (defArgs st_meeting) (defBody st_meeting) (defScope st_meeting) .none kV12 dc12 pm12 an12 cd12 ct12), sl12⟩)
    (c12 : PySem.W.codeIn K cd12 "meeting" = true)
    (k12 : PySem.W.keepIn K (.ref f12) = true)
    (a13 : PySem.W.nsIn K mainGlobals "many_by_backwards" = some (some (.ref f13)))
    (l13 : K.lookup f13 = some ⟨oc13, od13, .func (PySem.W.fnOf "many_by" "many_by" (defArgs st_many_by_backwards) (defBody st_many_by_backwards) (defScope st_many_by_backwards) .none kV13 dc13 pm13 an13 cd13 ct13), sl13⟩)
    (c13 : PySem.W.codeIn K cd13 "many_by" = true)
    (k13 : PySem.W.keepIn K (.ref f13) = true)
    (a14 : PySem.W.nsIn K mainGlobals "rows_by" = some (some (.ref f14)))
    (l14 : K.lookup f14 = some ⟨oc14, od14, .func (PySem.W.fnOf "rows_by" "rows_by" (defArgs st_rows_by) (defBody st_rows_by) (defScope st_rows_by) .none kV14 dc14 pm14 an14 cd14 ct14), sl14⟩)
    (c14 : PySem.W.codeIn K cd14 "rows_by" = true)
    (k14 : PySem.W.keepIn K (.ref f14) = true)
    (a15 : PySem.W.nsIn K mainGlobals "age_by_backwards" = some (some (.ref f15)))
    (l15 : K.lookup f15 = some ⟨oc15, od15, .func (PySem.W.fnOf "age_by" "age_by" (defArgs st_age_by_backwards) (defBody st_age_by_backwards) (defScope st_age_by_backwards) .none kV15 dc15 pm15 an15 cd15 ct15), sl15⟩)
    (c15 : PySem.W.codeIn K cd15 "age_by" = true)
    (k15 : PySem.W.keepIn K (.ref f15) = true)
    (a16 : PySem.W.nsIn K mainGlobals "is_aged" = some (some (.ref f16)))
    (l16 : K.lookup f16 = some ⟨oc16, od16, .func (PySem.W.fnOf "is_aged" "is_aged" (defArgs st_is_aged) (defBody st_is_aged) (defScope st_is_aged) .none kV16 dc16 pm16 an16 cd16 ct16), sl16⟩)
    (c16 : PySem.W.codeIn K cd16 "is_aged" = true)
    (k16 : PySem.W.keepIn K (.ref f16) = true)
    (a17 : PySem.W.nsIn K mainGlobals "need_least" = some (some (.ref f17)))
    (l17 : K.lookup f17 = some ⟨oc17, od17, .func (PySem.W.fnOf "need_least" "need_least" (defArgs st_need_least) (defBody st_need_least) (defScope st_need_least) .none kV17 dc17 pm17 an17 cd17 ct17), sl17⟩)
    (c17 : PySem.W.codeIn K cd17 "need_least" = true)
    (k17 : PySem.W.keepIn K (.ref f17) = true)
    (a18 : PySem.W.nsIn K mainGlobals "need_top" = some (some (.ref f18)))
    (l18 : K.lookup f18 = some ⟨oc18, od18, .func (PySem.W.fnOf "need_top" "need_top" (defArgs st_need_top) (defBody st_need_top) (defScope st_need_top) .none kV18 dc18 pm18 an18 cd18 ct18), sl18⟩)
    (c18 : PySem.W.codeIn K cd18 "need_top" = true)
    (k18 : PySem.W.keepIn K (.ref f18) = true)
    (a19 : PySem.W.nsIn K mainGlobals "need_length" = some (some (.ref f19)))
    (l19 : K.lookup f19 = some ⟨oc19, od19, .func (PySem.W.fnOf "need_length" "need_length" (defArgs st_need_length) (defBody st_need_length) (defScope st_need_length) .none kV19 dc19 pm19 an19 cd19 ct19), sl19⟩)
    (c19 : PySem.W.codeIn K cd19 "need_length" = true)
    (k19 : PySem.W.keepIn K (.ref f19) = true)
    (a20 : PySem.W.nsIn K mainGlobals "aged_rows" = some (some (.ref f20)))
    (l20 : K.lookup f20 = some ⟨oc20, od20, .func (PySem.W.fnOf "aged_rows" "aged_rows" (defArgs st_aged_rows) (defBody st_aged_rows) (defScope st_aged_rows) .none kV20 dc20 pm20 an20 cd20 ct20), sl20⟩)
    (c20 : PySem.W.codeIn K cd20 "aged_rows" = true)
    (k20 : PySem.W.keepIn K (.ref f20) = true)
    (a21 : PySem.W.nsIn K mainGlobals "many_with_elder" = some (some (.ref f21)))
    (l21 : K.lookup f21 = some ⟨oc21, od21, .func (PySem.W.fnOf "many_with_elder" "many_with_elder" (defArgs st_many_with_elder) (defBody st_many_with_elder) (defScope st_many_with_elder) .none kV21 dc21 pm21 an21 cd21 ct21), sl21⟩)
    (c21 : PySem.W.codeIn K cd21 "many_with_elder" = true)
    (k21 : PySem.W.keepIn K (.ref f21) = true)
    (a22 : PySem.W.nsIn K mainGlobals "_law_mixed" = some (some (.ref f22)))
    (l22 : K.lookup f22 = some ⟨oc22, od22, .func (PySem.W.fnOf "_law_mixed" "_law_mixed" (defArgs st__law_mixed) (defBody st__law_mixed) (defScope st__law_mixed) .none kV22 dc22 pm22 an22 cd22 ct22), sl22⟩)
    (c22 : PySem.W.codeIn K cd22 "_law_mixed" = true)
    (k22 : PySem.W.keepIn K (.ref f22) = true)
    (a23 : PySem.W.nsIn K mainGlobals "_law_take" = some (some (.ref f23)))
    (l23 : K.lookup f23 = some ⟨oc23, od23, .func (PySem.W.fnOf "_law_take" "_law_take" (defArgs st__law_take) (defBody st__law_take) (defScope st__law_take) .none kV23 dc23 pm23 an23 cd23 ct23), sl23⟩)
    (c23 : PySem.W.codeIn K cd23 "_law_take" = true)
    (k23 : PySem.W.keepIn K (.ref f23) = true)
    (a24 : PySem.W.nsIn K mainGlobals "elders" = some (some (.ref f24)))
    (l24 : K.lookup f24 = some ⟨oc24, od24, .func (PySem.W.fnOf "elders" "elders" (defArgs st_elders) (defBody st_elders) (defScope st_elders) .none kV24 dc24 pm24 an24 cd24 ct24), sl24⟩)
    (c24 : PySem.W.codeIn K cd24 "elders" = true)
    (k24 : PySem.W.keepIn K (.ref f24) = true)
    (a25 : PySem.W.nsIn K mainGlobals "short_row" = some (some (.ref f25)))
    (l25 : K.lookup f25 = some ⟨oc25, od25, .func (PySem.W.fnOf "short_row" "short_row" (defArgs st_short_row) (defBody st_short_row) (defScope st_short_row) .none kV25 dc25 pm25 an25 cd25 ct25), sl25⟩)
    (c25 : PySem.W.codeIn K cd25 "short_row" = true)
    (k25 : PySem.W.keepIn K (.ref f25) = true)
    (a26 : PySem.W.nsIn K mainGlobals "runs_by" = some (some (.ref f26)))
    (l26 : K.lookup f26 = some ⟨oc26, od26, .func (PySem.W.fnOf "runs_by" "runs_by" (defArgs st_runs_by) (defBody st_runs_by) (defScope st_runs_by) .none kV26 dc26 pm26 an26 cd26 ct26), sl26⟩)
    (c26 : PySem.W.codeIn K cd26 "runs_by" = true)
    (k26 : PySem.W.keepIn K (.ref f26) = true)
    (a27 : PySem.W.nsIn K mainGlobals "said_by" = some (some (.ref f27)))
    (l27 : K.lookup f27 = some ⟨oc27, od27, .func (PySem.W.fnOf "said_by" "said_by" (defArgs st_said_by) (defBody st_said_by) (defScope st_said_by) .none kV27 dc27 pm27 an27 cd27 ct27), sl27⟩)
    (c27 : PySem.W.codeIn K cd27 "said_by" = true)
    (k27 : PySem.W.keepIn K (.ref f27) = true)
    (a28 : PySem.W.nsIn K mainGlobals "days_by" = some (some (.ref f28)))
    (l28 : K.lookup f28 = some ⟨oc28, od28, .func (PySem.W.fnOf "days_by" "days_by" (defArgs st_days_by) (defBody st_days_by) (defScope st_days_by) .none kV28 dc28 pm28 an28 cd28 ct28), sl28⟩)
    (c28 : PySem.W.codeIn K cd28 "days_by" = true)
    (k28 : PySem.W.keepIn K (.ref f28) = true)
    (a29 : PySem.W.nsIn K mainGlobals "need_days" = some (some (.ref f29)))
    (l29 : K.lookup f29 = some ⟨oc29, od29, .func (PySem.W.fnOf "need_days" "need_days" (defArgs st_need_days) (defBody st_need_days) (defScope st_need_days) .none kV29 dc29 pm29 an29 cd29 ct29), sl29⟩)
    (c29 : PySem.W.codeIn K cd29 "need_days" = true)
    (k29 : PySem.W.keepIn K (.ref f29) = true)
    (a30 : PySem.W.nsIn K mainGlobals "said_often" = some (some (.ref f30)))
    (l30 : K.lookup f30 = some ⟨oc30, od30, .func (PySem.W.fnOf "said_often" "said_often" (defArgs st_said_often) (defBody st_said_often) (defScope st_said_often) .none kV30 dc30 pm30 an30 cd30 ct30), sl30⟩)
    (c30 : PySem.W.codeIn K cd30 "said_often" = true)
    (k30 : PySem.W.keepIn K (.ref f30) = true)
    (a31 : PySem.W.nsIn K mainGlobals "_law_pick" = some (some (.ref f31)))
    (l31 : K.lookup f31 = some ⟨oc31, od31, .func (PySem.W.fnOf "_law_pick" "_law_pick" (defArgs st__law_pick) (defBody st__law_pick) (defScope st__law_pick) .none kV31 dc31 pm31 an31 cd31 ct31), sl31⟩)
    (c31 : PySem.W.codeIn K cd31 "_law_pick" = true)
    (k31 : PySem.W.keepIn K (.ref f31) = true)
    (a32 : PySem.W.nsIn K mainGlobals "_law_runs" = some (some (.ref f32)))
    (l32 : K.lookup f32 = some ⟨oc32, od32, .func (PySem.W.fnOf "_law_runs" "_law_runs" (defArgs st__law_runs) (defBody st__law_runs) (defScope st__law_runs) .none kV32 dc32 pm32 an32 cd32 ct32), sl32⟩)
    (c32 : PySem.W.codeIn K cd32 "_law_runs" = true)
    (k32 : PySem.W.keepIn K (.ref f32) = true)
    (a33 : PySem.W.nsIn K mainGlobals "_law_said" = some (some (.ref f33)))
    (l33 : K.lookup f33 = some ⟨oc33, od33, .func (PySem.W.fnOf "_law_said" "_law_said" (defArgs st__law_said) (defBody st__law_said) (defScope st__law_said) .none kV33 dc33 pm33 an33 cd33 ct33), sl33⟩)
    (c33 : PySem.W.codeIn K cd33 "_law_said" = true)
    (k33 : PySem.W.keepIn K (.ref f33) = true)
    (a34 : PySem.W.nsIn K mainGlobals "_law_days" = some (some (.ref f34)))
    (l34 : K.lookup f34 = some ⟨oc34, od34, .func (PySem.W.fnOf "_law_days" "_law_days" (defArgs st__law_days) (defBody st__law_days) (defScope st__law_days) .none kV34 dc34 pm34 an34 cd34 ct34), sl34⟩)
    (c34 : PySem.W.codeIn K cd34 "_law_days" = true)
    (k34 : PySem.W.keepIn K (.ref f34) = true)
    (a35 : PySem.W.nsIn K mainGlobals "_law_row" = some (some (.ref f35)))
    (l35 : K.lookup f35 = some ⟨oc35, od35, .func (PySem.W.fnOf "_law_row" "_law_row" (defArgs st__law_row) (defBody st__law_row) (defScope st__law_row) .none kV35 dc35 pm35 an35 cd35 ct35), sl35⟩)
    (c35 : PySem.W.codeIn K cd35 "_law_row" = true)
    (k35 : PySem.W.keepIn K (.ref f35) = true)
    (a36 : PySem.W.nsIn K mainGlobals "oldest" = some (some (.ref f36)))
    (l36 : K.lookup f36 = some ⟨oc36, od36, .func (PySem.W.fnOf "oldest" "oldest" (defArgs st_oldest) (defBody st_oldest) (defScope st_oldest) .none kV36 dc36 pm36 an36 cd36 ct36), sl36⟩)
    (c36 : PySem.W.codeIn K cd36 "oldest" = true)
    (k36 : PySem.W.keepIn K (.ref f36) = true)
    (a37 : PySem.W.nsIn K mainGlobals "choices" = some (some (.ref f37)))
    (l37 : K.lookup f37 = some ⟨oc37, od37, .func (PySem.W.fnOf "choices" "choices" (defArgs st_choices) (defBody st_choices) (defScope st_choices) .none kV37 dc37 pm37 an37 cd37 ct37), sl37⟩)
    (c37 : PySem.W.codeIn K cd37 "choices" = true)
    (k37 : PySem.W.keepIn K (.ref f37) = true)
    (a38 : PySem.W.nsIn K mainGlobals "many_by_sketches" = some (some (.ref f38)))
    (l38 : K.lookup f38 = some ⟨oc38, od38, .func (PySem.W.fnOf "many_by" "many_by" (defArgs st_many_by_sketches) (defBody st_many_by_sketches) (defScope st_many_by_sketches) .none kV38 dc38 pm38 an38 cd38 ct38), sl38⟩)
    (c38 : PySem.W.codeIn K cd38 "many_by" = true)
    (k38 : PySem.W.keepIn K (.ref f38) = true)
    (a39 : PySem.W.nsIn K mainGlobals "need_sketch" = some (some (.ref f39)))
    (l39 : K.lookup f39 = some ⟨oc39, od39, .func (PySem.W.fnOf "need_sketch" "need_sketch" (defArgs st_need_sketch) (defBody st_need_sketch) (defScope st_need_sketch) .none kV39 dc39 pm39 an39 cd39 ct39), sl39⟩)
    (c39 : PySem.W.codeIn K cd39 "need_sketch" = true)
    (k39 : PySem.W.keepIn K (.ref f39) = true)
    (a40 : PySem.W.nsIn K mainGlobals "many_fillings" = some (some (.ref f40)))
    (l40 : K.lookup f40 = some ⟨oc40, od40, .func (PySem.W.fnOf "many_fillings" "many_fillings" (defArgs st_many_fillings) (defBody st_many_fillings) (defScope st_many_fillings) .none kV40 dc40 pm40 an40 cd40 ct40), sl40⟩)
    (c40 : PySem.W.codeIn K cd40 "many_fillings" = true)
    (k40 : PySem.W.keepIn K (.ref f40) = true)
    (a41 : PySem.W.nsIn K mainGlobals "fillings_by" = some (some (.ref f41)))
    (l41 : K.lookup f41 = some ⟨oc41, od41, .func (PySem.W.fnOf "fillings_by" "fillings_by" (defArgs st_fillings_by) (defBody st_fillings_by) (defScope st_fillings_by) .none kV41 dc41 pm41 an41 cd41 ct41), sl41⟩)
    (c41 : PySem.W.codeIn K cd41 "fillings_by" = true)
    (k41 : PySem.W.keepIn K (.ref f41) = true)
    (a42 : PySem.W.nsIn K mainGlobals "fillings" = some (some (.ref f42)))
    (l42 : K.lookup f42 = some ⟨oc42, od42, .func (PySem.W.fnOf "fillings" "fillings" (defArgs st_fillings) (defBody st_fillings) (defScope st_fillings) .none kV42 dc42 pm42 an42 cd42 ct42), sl42⟩)
    (c42 : PySem.W.codeIn K cd42 "fillings" = true)
    (k42 : PySem.W.keepIn K (.ref f42) = true)
    (a43 : PySem.W.nsIn K mainGlobals "elder" = some (some (.ref f43)))
    (l43 : K.lookup f43 = some ⟨oc43, od43, .func (PySem.W.fnOf "elder" "elder" (defArgs st_elder) (defBody st_elder) (defScope st_elder) .none kV43 dc43 pm43 an43 cd43 ct43), sl43⟩)
    (c43 : PySem.W.codeIn K cd43 "elder" = true)
    (k43 : PySem.W.keepIn K (.ref f43) = true)
    (a44 : PySem.W.nsIn K mainGlobals "_law_right" = some (some (.ref f44)))
    (l44 : K.lookup f44 = some ⟨oc44, od44, .func (PySem.W.fnOf "_law_right" "_law_right" (defArgs st__law_right) (defBody st__law_right) (defScope st__law_right) .none kV44 dc44 pm44 an44 cd44 ct44), sl44⟩)
    (c44 : PySem.W.codeIn K cd44 "_law_right" = true)
    (k44 : PySem.W.keepIn K (.ref f44) = true)
    (a45 : PySem.W.nsIn K mainGlobals "_law_begun" = some (some (.ref f45)))
    (l45 : K.lookup f45 = some ⟨oc45, od45, .func (PySem.W.fnOf "_law_begun" "_law_begun" (defArgs st__law_begun) (defBody st__law_begun) (defScope st__law_begun) .none kV45 dc45 pm45 an45 cd45 ct45), sl45⟩)
    (c45 : PySem.W.codeIn K cd45 "_law_begun" = true)
    (k45 : PySem.W.keepIn K (.ref f45) = true)
    (a46 : PySem.W.nsIn K mainGlobals "law" = some (some (.ref f46)))
    (l46 : K.lookup f46 = some ⟨oc46, od46, .func (PySem.W.fnOf "law" "law" (defArgs st_law) (defBody st_law) (defScope st_law) .none kV46 dc46 pm46 an46 cd46 ct46), sl46⟩)
    (c46 : PySem.W.codeIn K cd46 "law" = true)
    (k46 : PySem.W.keepIn K (.ref f46) = true)
    (xMOST_DAYS : PySem.W.nsIn K mainGlobals "MOST_DAYS" = some (some (.int 60 tkMOST_DAYS)))
    (xMOST_LEAST : PySem.W.nsIn K mainGlobals "MOST_LEAST" = some (some (.int 20 tkMOST_LEAST)))
    (xMOST_LONG : PySem.W.nsIn K mainGlobals "MOST_LONG" = some (some (.int 5000 tkMOST_LONG)))
    (xMOST_NUMBER : PySem.W.nsIn K mainGlobals "MOST_NUMBER" = some (some (.int 99 tkMOST_NUMBER)))
    (xMOST_NUMBERS : PySem.W.nsIn K mainGlobals "MOST_NUMBERS" = some (some (.int 60 tkMOST_NUMBERS)))
    (xMOST_TOLD : PySem.W.nsIn K mainGlobals "MOST_TOLD" = some (some (.int 5000 tkMOST_TOLD)))
    (xSTILL : PySem.W.nsIn K mainGlobals "STILL" = some (some (.ref uSTILL)))
    (luSTILL : K.lookup uSTILL = some ⟨.type "tuple", duSTILL, .seq [.ref uSTILL_0, .ref uSTILL_1].toArray nuSTILL, suSTILL⟩)
    (luSTILL_0 : K.lookup uSTILL_0 = some ⟨.type "tuple", duSTILL_0, .seq [].toArray nuSTILL_0, suSTILL_0⟩)
    (luSTILL_1 : K.lookup uSTILL_1 = some ⟨.type "tuple", duSTILL_1, .seq [.int 2 tuSTILL_1_0, .int 2 tuSTILL_1_1].toArray nuSTILL_1, suSTILL_1⟩)
    (zall : PySem.W.nsIn K mainGlobals "all" = some none)
    (zbool : PySem.W.nsIn K mainGlobals "bool" = some none)
    (zdict : PySem.W.nsIn K mainGlobals "dict" = some none)
    (zint : PySem.W.nsIn K mainGlobals "int" = some none)
    (zisinstance : PySem.W.nsIn K mainGlobals "isinstance" = some none)
    (zlen : PySem.W.nsIn K mainGlobals "len" = some none)
    (zlist : PySem.W.nsIn K mainGlobals "list" = some none)
    (zmax : PySem.W.nsIn K mainGlobals "max" = some none)
    (zmin : PySem.W.nsIn K mainGlobals "min" = some none)
    (zrange : PySem.W.nsIn K mainGlobals "range" = some none)
    (zrepr : PySem.W.nsIn K mainGlobals "repr" = some none)
    (zstr : PySem.W.nsIn K mainGlobals "str" = some none)
    (zsum : PySem.W.nsIn K mainGlobals "sum" = some none)
    (ztuple : PySem.W.nsIn K mainGlobals "tuple" = some none) :
    ∃ fd : FuncData, (∀ (s : Shared) (v : Value), BindsTo s fd ⟨[v], []⟩ [("script", v)]) ∧ ∀ base : Heap, K.In base → base.Ns mainGlobals mg → FnOk l.prog w K mg base CX0 8 fa fd ["script"] (spOf K sp_script) := by
  have e := hfa.symm.trans (PySem.W.mg_of X G a46)
  cases e
  have T : Txt K mg := ⟨PySem.W.mg_none_of X G zall,
    PySem.W.mg_none_of X G zbool,
    PySem.W.mg_none_of X G zdict,
    PySem.W.mg_none_of X G zint,
    PySem.W.mg_none_of X G zisinstance,
    PySem.W.mg_none_of X G zlen,
    PySem.W.mg_none_of X G zlist,
    PySem.W.mg_none_of X G zmax,
    PySem.W.mg_none_of X G zmin,
    PySem.W.mg_none_of X G zrange,
    PySem.W.mg_none_of X G zrepr,
    PySem.W.mg_none_of X G zstr,
    PySem.W.mg_none_of X G zsum,
    PySem.W.mg_none_of X G ztuple,
    .ofInt X G xMOST_DAYS,
    .ofInt X G xMOST_LEAST,
    .ofInt X G xMOST_LONG,
    .ofInt X G xMOST_NUMBER,
    .ofInt X G xMOST_NUMBERS,
    .ofInt X G xMOST_TOLD,
    .ofTup X G xSTILL (.tup luSTILL rfl rfl (by show 2 ≤ sizeLine; decide) (.cons (.tup luSTILL_0 rfl rfl (by show 0 ≤ sizeLine; decide) .nil) (.cons (.tup luSTILL_1 rfl rfl (by show 2 ≤ sizeLine; decide) (.cons .int (.cons .int .nil))) .nil)))⟩
  have F__law_kinds : FunAt K mg "_law_kinds" "_law_kinds" st__law_kinds ["thing"] := .of X G a0 l0 c0 k0 fun _ _ _ _ _ _ us hl => match us, hl with | [_], _ => rfl
  have F__law_says : FunAt K mg "_law_says" "_law_says" st__law_says ["told", "due"] := .of X G a1 l1 c1 k1 fun _ _ _ _ _ _ us hl => match us, hl with | [_, _], _ => rfl
  have F_bar_by : FunAt K mg "bar_by" "bar_by" st_bar_by ["row"] := .of X G a2 l2 c2 k2 fun _ _ _ _ _ _ us hl => match us, hl with | [_], _ => rfl
  have F_elder_by : FunAt K mg "elder_by" "elder_by" st_elder_by ["row"] := .of X G a3 l3 c3 k3 fun _ _ _ _ _ _ us hl => match us, hl with | [_], _ => rfl
  have F_elders_by : FunAt K mg "elders_by" "elders_by" st_elders_by ["row"] := .of X G a4 l4 c4 k4 fun _ _ _ _ _ _ us hl => match us, hl with | [_], _ => rfl
  have F_age_by_elders : FunAt K mg "age_by_elders" "age_by" st_age_by_elders ["row"] := .of X G a5 l5 c5 k5 fun _ _ _ _ _ _ us hl => match us, hl with | [_], _ => rfl
  have F_is_whole : FunAt K mg "is_whole" "is_whole" st_is_whole ["thing"] := .of X G a6 l6 c6 k6 fun _ _ _ _ _ _ us hl => match us, hl with | [_], _ => rfl
  have F_is_row_of : FunAt K mg "is_row_of" "is_row_of" st_is_row_of ["thing"] := .of X G a7 l7 c7 k7 fun _ _ _ _ _ _ us hl => match us, hl with | [_], _ => rfl
  have F_need_row : FunAt K mg "need_row" "need_row" st_need_row ["row", "word"] := .of X G a8 l8 c8 k8 fun _ _ _ _ _ _ us hl => match us, hl with | [_, _], _ => rfl
  have F_age : FunAt K mg "age" "age" st_age ["row"] := .of X G a9 l9 c9 k9 fun _ _ _ _ _ _ us hl => match us, hl with | [_], _ => rfl
  have F_place_among : FunAt K mg "place_among" "place_among" st_place_among ["row", "other"] := .of X G a10 l10 c10 k10 fun _ _ _ _ _ _ us hl => match us, hl with | [_, _], _ => rfl
  have F_need_both : FunAt K mg "need_both" "need_both" st_need_both ["one", "other"] := .of X G a11 l11 c11 k11 fun _ _ _ _ _ _ us hl => match us, hl with | [_, _], _ => rfl
  have F_meeting : FunAt K mg "meeting" "meeting" st_meeting ["one", "other"] := .of X G a12 l12 c12 k12 fun _ _ _ _ _ _ us hl => match us, hl with | [_, _], _ => rfl
  have F_many_by_backwards : FunAt K mg "many_by_backwards" "many_by" st_many_by_backwards ["length", "top"] := .of X G a13 l13 c13 k13 fun _ _ _ _ _ _ us hl => match us, hl with | [_, _], _ => rfl
  have F_rows_by : FunAt K mg "rows_by" "rows_by" st_rows_by ["length", "top"] := .of X G a14 l14 c14 k14 fun _ _ _ _ _ _ us hl => match us, hl with | [_, _], _ => rfl
  have F_age_by_backwards : FunAt K mg "age_by_backwards" "age_by" st_age_by_backwards ["row"] := .of X G a15 l15 c15 k15 fun _ _ _ _ _ _ us hl => match us, hl with | [_], _ => rfl
  have F_is_aged : FunAt K mg "is_aged" "is_aged" st_is_aged ["row", "least"] := .of X G a16 l16 c16 k16 fun _ _ _ _ _ _ us hl => match us, hl with | [_, _], _ => rfl
  have F_need_least : FunAt K mg "need_least" "need_least" st_need_least ["least"] := .of X G a17 l17 c17 k17 fun _ _ _ _ _ _ us hl => match us, hl with | [_], _ => rfl
  have F_need_top : FunAt K mg "need_top" "need_top" st_need_top ["top"] := .of X G a18 l18 c18 k18 fun _ _ _ _ _ _ us hl => match us, hl with | [_], _ => rfl
  have F_need_length : FunAt K mg "need_length" "need_length" st_need_length ["length"] := .of X G a19 l19 c19 k19 fun _ _ _ _ _ _ us hl => match us, hl with | [_], _ => rfl
  have F_aged_rows : FunAt K mg "aged_rows" "aged_rows" st_aged_rows ["length", "top", "least"] := .of X G a20 l20 c20 k20 fun _ _ _ _ _ _ us hl => match us, hl with | [_, _, _], _ => rfl
  have F_many_with_elder : FunAt K mg "many_with_elder" "many_with_elder" st_many_with_elder ["length", "top"] := .of X G a21 l21 c21 k21 fun _ _ _ _ _ _ us hl => match us, hl with | [_, _], _ => rfl
  have F__law_mixed : FunAt K mg "_law_mixed" "_law_mixed" st__law_mixed ["draw"] := .of X G a22 l22 c22 k22 fun _ _ _ _ _ _ us hl => match us, hl with | [_], _ => rfl
  have F__law_take : FunAt K mg "_law_take" "_law_take" st__law_take ["draw", "amount"] := .of X G a23 l23 c23 k23 fun _ _ _ _ _ _ us hl => match us, hl with | [_, _], _ => rfl
  have F_elders : FunAt K mg "elders" "elders" st_elders ["row"] := .of X G a24 l24 c24 k24 fun _ _ _ _ _ _ us hl => match us, hl with | [_], _ => rfl
  have F_short_row : FunAt K mg "short_row" "short_row" st_short_row ["row"] := .of X G a25 l25 c25 k25 fun _ _ _ _ _ _ us hl => match us, hl with | [_], _ => rfl
  have F_runs_by : FunAt K mg "runs_by" "runs_by" st_runs_by ["row"] := .of X G a26 l26 c26 k26 fun _ _ _ _ _ _ us hl => match us, hl with | [_], _ => rfl
  have F_said_by : FunAt K mg "said_by" "said_by" st_said_by ["row"] := .of X G a27 l27 c27 k27 fun _ _ _ _ _ _ us hl => match us, hl with | [_], _ => rfl
  have F_days_by : FunAt K mg "days_by" "days_by" st_days_by ["row", "days"] := .of X G a28 l28 c28 k28 fun _ _ _ _ _ _ us hl => match us, hl with | [_, _], _ => rfl
  have F_need_days : FunAt K mg "need_days" "need_days" st_need_days ["days"] := .of X G a29 l29 c29 k29 fun _ _ _ _ _ _ us hl => match us, hl with | [_], _ => rfl
  have F_said_often : FunAt K mg "said_often" "said_often" st_said_often ["row", "days"] := .of X G a30 l30 c30 k30 fun _ _ _ _ _ _ us hl => match us, hl with | [_, _], _ => rfl
  have F__law_pick : FunAt K mg "_law_pick" "_law_pick" st__law_pick ["draw", "items"] := .of X G a31 l31 c31 k31 fun _ _ _ _ _ _ us hl => match us, hl with | [_, _], _ => rfl
  have F__law_runs : FunAt K mg "_law_runs" "_law_runs" st__law_runs ["row"] := .of X G a32 l32 c32 k32 fun _ _ _ _ _ _ us hl => match us, hl with | [_], _ => rfl
  have F__law_said : FunAt K mg "_law_said" "_law_said" st__law_said ["row"] := .of X G a33 l33 c33 k33 fun _ _ _ _ _ _ us hl => match us, hl with | [_], _ => rfl
  have F__law_days : FunAt K mg "_law_days" "_law_days" st__law_days ["row", "days"] := .of X G a34 l34 c34 k34 fun _ _ _ _ _ _ us hl => match us, hl with | [_, _], _ => rfl
  have F__law_row : FunAt K mg "_law_row" "_law_row" st__law_row ["draw", "most"] := .of X G a35 l35 c35 k35 fun _ _ _ _ _ _ us hl => match us, hl with | [_, _], _ => rfl
  have F_oldest : FunAt K mg "oldest" "oldest" st_oldest ["length", "top"] := .of X G a36 l36 c36 k36 fun _ _ _ _ _ _ us hl => match us, hl with | [_, _], _ => rfl
  have F_choices : FunAt K mg "choices" "choices" st_choices ["number", "top"] := .of X G a37 l37 c37 k37 fun _ _ _ _ _ _ us hl => match us, hl with | [_, _], _ => rfl
  have F_many_by_sketches : FunAt K mg "many_by_sketches" "many_by" st_many_by_sketches ["sketch", "top"] := .of X G a38 l38 c38 k38 fun _ _ _ _ _ _ us hl => match us, hl with | [_, _], _ => rfl
  have F_need_sketch : FunAt K mg "need_sketch" "need_sketch" st_need_sketch ["sketch"] := .of X G a39 l39 c39 k39 fun _ _ _ _ _ _ us hl => match us, hl with | [_], _ => rfl
  have F_many_fillings : FunAt K mg "many_fillings" "many_fillings" st_many_fillings ["sketch", "top"] := .of X G a40 l40 c40 k40 fun _ _ _ _ _ _ us hl => match us, hl with | [_, _], _ => rfl
  have F_fillings_by : FunAt K mg "fillings_by" "fillings_by" st_fillings_by ["sketch", "top"] := .of X G a41 l41 c41 k41 fun _ _ _ _ _ _ us hl => match us, hl with | [_, _], _ => rfl
  have F_fillings : FunAt K mg "fillings" "fillings" st_fillings ["sketch", "top"] := .of X G a42 l42 c42 k42 fun _ _ _ _ _ _ us hl => match us, hl with | [_, _], _ => rfl
  have F_elder : FunAt K mg "elder" "elder" st_elder ["row"] := .of X G a43 l43 c43 k43 fun _ _ _ _ _ _ us hl => match us, hl with | [_], _ => rfl
  have F__law_right : FunAt K mg "_law_right" "_law_right" st__law_right ["draw"] := .of X G a44 l44 c44 k44 fun _ _ _ _ _ _ us hl => match us, hl with | [_], _ => rfl
  have F__law_begun : FunAt K mg "_law_begun" "_law_begun" st__law_begun ["script"] := .of X G a45 l45 c45 k45 fun _ _ _ _ _ _ us hl => match us, hl with | [_], _ => rfl
  have F_law := fun_mk (st := st_law) l46 c46 k46
  refine ⟨PySem.W.fnOf "law" "law" (defArgs st_law) (defBody st_law) (defScope st_law) .none kV46 dc46 pm46 an46 cd46 ct46, fun s v => .of_eq rfl, fun base _ _ => ?_⟩
  have D__law_kinds := df__law_kinds (P := l.prog) (w := w) (base := base) F__law_kinds T 
  have D__law_says := df__law_says (P := l.prog) (w := w) (base := base) F__law_says T D__law_kinds
  have D_bar_by := df_bar_by (P := l.prog) (w := w) (base := base) F_bar_by T 
  have D_elder_by := df_elder_by (P := l.prog) (w := w) (base := base) F_elder_by T D_bar_by
  have D_elders_by := df_elders_by (P := l.prog) (w := w) (base := base) F_elders_by T D_elder_by
  have D_age_by_elders := df_age_by_elders (P := l.prog) (w := w) (base := base) F_age_by_elders T D_elders_by
  have D_is_whole := df_is_whole (P := l.prog) (w := w) (base := base) F_is_whole T 
  have D_is_row_of := df_is_row_of (P := l.prog) (w := w) (base := base) F_is_row_of T D_is_whole
  have D_need_row := df_need_row (P := l.prog) (w := w) (base := base) F_need_row T D_is_row_of
  have D_age := df_age (P := l.prog) (w := w) (base := base) F_age T D_age_by_elders D_need_row
  have D_place_among := df_place_among (P := l.prog) (w := w) (base := base) F_place_among T D_elders_by
  have D_need_both := df_need_both (P := l.prog) (w := w) (base := base) F_need_both T D_need_row
  have D_meeting := df_meeting (P := l.prog) (w := w) (base := base) F_meeting T D_place_among D_need_both
  have D_many_by_backwards := df_many_by_backwards (P := l.prog) (w := w) (base := base) F_many_by_backwards T 
  have D_rows_by := df_rows_by (P := l.prog) (w := w) (base := base) F_rows_by T D_many_by_backwards
  have D_age_by_backwards := df_age_by_backwards (P := l.prog) (w := w) (base := base) F_age_by_backwards T D_elders_by
  have D_is_aged := df_is_aged (P := l.prog) (w := w) (base := base) F_is_aged T D_age_by_backwards
  have D_need_least := df_need_least (P := l.prog) (w := w) (base := base) F_need_least T D_is_whole
  have D_need_top := df_need_top (P := l.prog) (w := w) (base := base) F_need_top T D_is_whole
  have D_need_length := df_need_length (P := l.prog) (w := w) (base := base) F_need_length T D_is_whole
  have D_aged_rows := df_aged_rows (P := l.prog) (w := w) (base := base) F_aged_rows T D_rows_by D_is_aged D_need_least D_need_top D_need_length
  have D_many_with_elder := df_many_with_elder (P := l.prog) (w := w) (base := base) F_many_with_elder T D_many_by_backwards D_need_top D_need_length
  have D__law_mixed := df__law_mixed (P := l.prog) (w := w) (base := base) F__law_mixed T 
  have D__law_take := df__law_take (P := l.prog) (w := w) (base := base) F__law_take T D__law_mixed
  have D_elders := df_elders (P := l.prog) (w := w) (base := base) F_elders T D_elders_by D_need_row
  have D_short_row := df_short_row (P := l.prog) (w := w) (base := base) F_short_row T 
  have D_runs_by := df_runs_by (P := l.prog) (w := w) (base := base) F_runs_by T 
  have D_said_by := df_said_by (P := l.prog) (w := w) (base := base) F_said_by T D_runs_by
  have D_days_by := df_days_by (P := l.prog) (w := w) (base := base) F_days_by T D_short_row D_said_by
  have D_need_days := df_need_days (P := l.prog) (w := w) (base := base) F_need_days T D_is_whole
  have D_said_often := df_said_often (P := l.prog) (w := w) (base := base) F_said_often T D_days_by D_need_days D_need_row
  have D__law_pick := df__law_pick (P := l.prog) (w := w) (base := base) F__law_pick T D__law_take
  have D__law_runs := df__law_runs (P := l.prog) (w := w) (base := base) F__law_runs T 
  have D__law_said := df__law_said (P := l.prog) (w := w) (base := base) F__law_said T D__law_runs
  have D__law_days := df__law_days (P := l.prog) (w := w) (base := base) F__law_days T D__law_said
  have D__law_row := df__law_row (P := l.prog) (w := w) (base := base) F__law_row T D__law_take D__law_pick D__law_days
  have D_oldest := df_oldest (P := l.prog) (w := w) (base := base) F_oldest T D_rows_by D_age_by_backwards D_need_top D_need_length
  have D_choices := df_choices (P := l.prog) (w := w) (base := base) F_choices T 
  have D_many_by_sketches := df_many_by_sketches (P := l.prog) (w := w) (base := base) F_many_by_sketches T D_choices
  have D_need_sketch := df_need_sketch (P := l.prog) (w := w) (base := base) F_need_sketch T D_is_whole
  have D_many_fillings := df_many_fillings (P := l.prog) (w := w) (base := base) F_many_fillings T D_many_by_sketches D_need_top D_need_sketch
  have D_fillings_by := df_fillings_by (P := l.prog) (w := w) (base := base) F_fillings_by T D_choices D_many_by_sketches
  have D_fillings := df_fillings (P := l.prog) (w := w) (base := base) F_fillings T D_fillings_by D_need_top D_need_sketch
  have D_elder := df_elder (P := l.prog) (w := w) (base := base) F_elder T D_elder_by D_need_row
  have D__law_right := df__law_right (P := l.prog) (w := w) (base := base) F__law_right T D_meeting D_age D__law_take D_elders D_said_often D__law_row D_oldest D_aged_rows D_many_fillings D_fillings D_elder D_many_with_elder
  have D__law_begun := df__law_begun (P := l.prog) (w := w) (base := base) F__law_begun T 
  exact fn_law F_law T D__law_says D_age D_meeting D_aged_rows D_many_with_elder D__law_right D__law_begun
end LD
open PySem PySem.W PyProof.Rows
set_option maxRecDepth 100000 in
set_option maxHeartbeats 0 in
theorem PySem.Challenge.cw_looksay_k48_across_elders_and_rows_that_holds : PySem.Challenge.rw_looksay_k48_across_elders_and_rows_that.Holds := by
  w_on; o_law; k_head; (case hw => w_witness2)
  k_fill
  refine LD.walkS (l := PySem.Challenge.rw_looksay_k48_across_elders_and_rows_that) (k := 8) rfl rfl ⟨rfl, by decide, by decide⟩ (fun w h Y => by first | exact PySem.W.kIn_of Y | exact PySem.W.km_in_of Y) ?F
  case F =>
    intro w mg fa h KX G hmg
    refine' LD.all_mk KX G hmg ?a0 ?l0 ?c0 ?k0 ?a1 ?l1 ?c1 ?k1 ?a2 ?l2 ?c2 ?k2 ?a3 ?l3 ?c3 ?k3 ?a4 ?l4 ?c4 ?k4 ?a5 ?l5 ?c5 ?k5 ?a6 ?l6 ?c6 ?k6 ?a7 ?l7 ?c7 ?k7 ?a8 ?l8 ?c8 ?k8 ?a9 ?l9 ?c9 ?k9 ?a10 ?l10 ?c10 ?k10 ?a11 ?l11 ?c11 ?k11 ?a12 ?l12 ?c12 ?k12 ?a13 ?l13 ?c13 ?k13 ?a14 ?l14 ?c14 ?k14 ?a15 ?l15 ?c15 ?k15 ?a16 ?l16 ?c16 ?k16 ?a17 ?l17 ?c17 ?k17 ?a18 ?l18 ?c18 ?k18 ?a19 ?l19 ?c19 ?k19 ?a20 ?l20 ?c20 ?k20 ?a21 ?l21 ?c21 ?k21 ?a22 ?l22 ?c22 ?k22 ?a23 ?l23 ?c23 ?k23 ?a24 ?l24 ?c24 ?k24 ?a25 ?l25 ?c25 ?k25 ?a26 ?l26 ?c26 ?k26 ?a27 ?l27 ?c27 ?k27 ?a28 ?l28 ?c28 ?k28 ?a29 ?l29 ?c29 ?k29 ?a30 ?l30 ?c30 ?k30 ?a31 ?l31 ?c31 ?k31 ?a32 ?l32 ?c32 ?k32 ?a33 ?l33 ?c33 ?k33 ?a34 ?l34 ?c34 ?k34 ?a35 ?l35 ?c35 ?k35 ?a36 ?l36 ?c36 ?k36 ?a37 ?l37 ?c37 ?k37 ?a38 ?l38 ?c38 ?k38 ?a39 ?l39 ?c39 ?k39 ?a40 ?l40 ?c40 ?k40 ?a41 ?l41 ?c41 ?k41 ?a42 ?l42 ?c42 ?k42 ?a43 ?l43 ?c43 ?k43 ?a44 ?l44 ?c44 ?k44 ?a45 ?l45 ?c45 ?k45 ?a46 ?l46 ?c46 ?k46 ?xMOST_DAYS ?xMOST_LEAST ?xMOST_LONG ?xMOST_NUMBER ?xMOST_NUMBERS ?xMOST_TOLD ?xSTILL ?luSTILL ?luSTILL_0 ?luSTILL_1 ?zall ?zbool ?zdict ?zint ?zisinstance ?zlen ?zlist ?zmax ?zmin ?zrange ?zrepr ?zstr ?zsum ?ztuple
    (case a0 => k_is)
    (case l0 => k_is)
    (case c0 => k_is)
    (case k0 => k_is)
    (case a1 => k_is)
    (case l1 => k_is)
    (case c1 => k_is)
    (case k1 => k_is)
    (case a2 => k_is)
    (case l2 => k_is)
    (case c2 => k_is)
    (case k2 => k_is)
    (case a3 => k_is)
    (case l3 => k_is)
    (case c3 => k_is)
    (case k3 => k_is)
    (case a4 => k_is)
    (case l4 => k_is)
    (case c4 => k_is)
    (case k4 => k_is)
    (case a5 => k_is)
    (case l5 => k_is)
    (case c5 => k_is)
    (case k5 => k_is)
    (case a6 => k_is)
    (case l6 => k_is)
    (case c6 => k_is)
    (case k6 => k_is)
    (case a7 => k_is)
    (case l7 => k_is)
    (case c7 => k_is)
    (case k7 => k_is)
    (case a8 => k_is)
    (case l8 => k_is)
    (case c8 => k_is)
    (case k8 => k_is)
    (case a9 => k_is)
    (case l9 => k_is)
    (case c9 => k_is)
    (case k9 => k_is)
    (case a10 => k_is)
    (case l10 => k_is)
    (case c10 => k_is)
    (case k10 => k_is)
    (case a11 => k_is)
    (case l11 => k_is)
    (case c11 => k_is)
    (case k11 => k_is)
    (case a12 => k_is)
    (case l12 => k_is)
    (case c12 => k_is)
    (case k12 => k_is)
    (case a13 => k_is)
    (case l13 => k_is)
    (case c13 => k_is)
    (case k13 => k_is)
    (case a14 => k_is)
    (case l14 => k_is)
    (case c14 => k_is)
    (case k14 => k_is)
    (case a15 => k_is)
    (case l15 => k_is)
    (case c15 => k_is)
    (case k15 => k_is)
    (case a16 => k_is)
    (case l16 => k_is)
    (case c16 => k_is)
    (case k16 => k_is)
    (case a17 => k_is)
    (case l17 => k_is)
    (case c17 => k_is)
    (case k17 => k_is)
    (case a18 => k_is)
    (case l18 => k_is)
    (case c18 => k_is)
    (case k18 => k_is)
    (case a19 => k_is)
    (case l19 => k_is)
    (case c19 => k_is)
    (case k19 => k_is)
    (case a20 => k_is)
    (case l20 => k_is)
    (case c20 => k_is)
    (case k20 => k_is)
    (case a21 => k_is)
    (case l21 => k_is)
    (case c21 => k_is)
    (case k21 => k_is)
    (case a22 => k_is)
    (case l22 => k_is)
    (case c22 => k_is)
    (case k22 => k_is)
    (case a23 => k_is)
    (case l23 => k_is)
    (case c23 => k_is)
    (case k23 => k_is)
    (case a24 => k_is)
    (case l24 => k_is)
    (case c24 => k_is)
    (case k24 => k_is)
    (case a25 => k_is)
    (case l25 => k_is)
    (case c25 => k_is)
    (case k25 => k_is)
    (case a26 => k_is)
    (case l26 => k_is)
    (case c26 => k_is)
    (case k26 => k_is)
    (case a27 => k_is)
    (case l27 => k_is)
    (case c27 => k_is)
    (case k27 => k_is)
    (case a28 => k_is)
    (case l28 => k_is)
    (case c28 => k_is)
    (case k28 => k_is)
    (case a29 => k_is)
    (case l29 => k_is)
    (case c29 => k_is)
    (case k29 => k_is)
    (case a30 => k_is)
    (case l30 => k_is)
    (case c30 => k_is)
    (case k30 => k_is)
    (case a31 => k_is)
    (case l31 => k_is)
    (case c31 => k_is)
    (case k31 => k_is)
    (case a32 => k_is)
    (case l32 => k_is)
    (case c32 => k_is)
    (case k32 => k_is)
    (case a33 => k_is)
    (case l33 => k_is)
    (case c33 => k_is)
    (case k33 => k_is)
    (case a34 => k_is)
    (case l34 => k_is)
    (case c34 => k_is)
    (case k34 => k_is)
    (case a35 => k_is)
    (case l35 => k_is)
    (case c35 => k_is)
    (case k35 => k_is)
    (case a36 => k_is)
    (case l36 => k_is)
    (case c36 => k_is)
    (case k36 => k_is)
    (case a37 => k_is)
    (case l37 => k_is)
    (case c37 => k_is)
    (case k37 => k_is)
    (case a38 => k_is)
    (case l38 => k_is)
    (case c38 => k_is)
    (case k38 => k_is)
    (case a39 => k_is)
    (case l39 => k_is)
    (case c39 => k_is)
    (case k39 => k_is)
    (case a40 => k_is)
    (case l40 => k_is)
    (case c40 => k_is)
    (case k40 => k_is)
    (case a41 => k_is)
    (case l41 => k_is)
    (case c41 => k_is)
    (case k41 => k_is)
    (case a42 => k_is)
    (case l42 => k_is)
    (case c42 => k_is)
    (case k42 => k_is)
    (case a43 => k_is)
    (case l43 => k_is)
    (case c43 => k_is)
    (case k43 => k_is)
    (case a44 => k_is)
    (case l44 => k_is)
    (case c44 => k_is)
    (case k44 => k_is)
    (case a45 => k_is)
    (case l45 => k_is)
    (case c45 => k_is)
    (case k45 => k_is)
    (case a46 => k_is)
    (case l46 => k_is)
    (case c46 => k_is)
    (case k46 => k_is)
    (case xMOST_DAYS => k_is)
    (case xMOST_LEAST => k_is)
    (case xMOST_LONG => k_is)
    (case xMOST_NUMBER => k_is)
    (case xMOST_NUMBERS => k_is)
    (case xMOST_TOLD => k_is)
    (case xSTILL => k_is)
    (case luSTILL => k_is)
    (case luSTILL_0 => k_is)
    (case luSTILL_1 => k_is)
    (case zall => k_is)
    (case zbool => k_is)
    (case zdict => k_is)
    (case zint => k_is)
    (case zisinstance => k_is)
    (case zlen => k_is)
    (case zlist => k_is)
    (case zmax => k_is)
    (case zmin => k_is)
    (case zrange => k_is)
    (case zrepr => k_is)
    (case zstr => k_is)
    (case zsum => k_is)
    (case ztuple => k_is)
#print axioms PySem.Challenge.cw_looksay_k48_across_elders_and_rows_that_holds