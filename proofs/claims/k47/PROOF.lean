import PyProof.Rows.All
import HandS.ForMost
import HandS.Wide
import HandS.WideBits
import HandS.Style
import HandS.Flow
import HandS.Deep
import HandS.More
import HandS.IsInst
import HandS.Flt
import HandS.TupAny
import HandS.TupMul
import HandS.Ends
import PyProof.ReprRoads
import PyProof.CallFns
import HandS.NoneIn
import HandS.ForList
import PySem.Challenge.RW_likesheets_k47_measures_that_suit
set_option Elab.async false
set_option linter.all false
set_option maxRecDepth 100000
set_option maxHeartbeats 4000000
/-! A mini interpreter over the hand layer: data without a heap, and what stands for it in the heap. -/
namespace Mi
open PySem PySem.Spec PyProof.Rows L2

abbrev D := PyData

/-! ### what stands for a datum -/
mutual
inductive Rp (K : PySem.W.Frag) (G : Hp) : V → PyData → Prop
  | non : Rp K G .non .none
  | bl (b : Bool) : Rp K G (.bl b) (.bool b)
  | int (i : Int) : Rp K G (.int i) (.int i)
  | str (x : Str) : Rp K G (.str x) (.str x)
  | lst {a : Addr} {xs : List V} {ds : List PyData} : G a = some (.lst xs) → RpAll K G xs ds → Rp K G (.ref a) (.list ds)
  | tup {a : Addr} {xs : List V} {ds : List PyData} : SqT K G a xs → RpAll K G xs ds → Rp K G (.ref a) (.tuple ds)
  | scr {a : Addr} {ns : List Int} : SqL K G a (ns.map V.int) → Rp K G (.ref a) (.dict [(.none, .list (ns.map PyData.int))])
inductive RpAll (K : PySem.W.Frag) (G : Hp) : List V → List PyData → Prop
  | nil : RpAll K G [] []
  | cons {v : V} {vs : List V} {d : PyData} {ds : List PyData} : Rp K G v d → RpAll K G vs ds → RpAll K G (v :: vs) (d :: ds)
end

theorem same_sqT {K : PySem.W.Frag} {G G' : Hp} {a : Addr} {xs : List V} (e : Same G G') (h : SqT K G a xs) : SqT K G' a xs := by
  rcases h with (h | ⟨o, h⟩) | h
  · exact .inl (.inl (e _ _ h))
  · exact .inl (.inr ⟨o, e _ _ h⟩)
  · exact .inr h

section
variable {K : PySem.W.Frag} {G G' : Hp}
mutual
theorem Rp.mono (e : Same G G') : ∀ {d : PyData} {v : V}, Rp K G v d → Rp K G' v d
  | .none, _, h => by cases h; exact .non
  | .bool b, _, h => by cases h; exact .bl b
  | .int i, _, h => by cases h; exact .int i
  | .str x, _, h => by cases h; exact .str x
  | .list ds, _, h => by
    cases h with
    | lst h1 h2 => exact .lst (e _ _ h1) (RpAll.mono e h2)
  | .tuple ds, _, h => by
    cases h with
    | tup h1 h2 => exact .tup (same_sqT e h1) (RpAll.mono e h2)
  | .dict kvs, _, h => by
    cases h with
    | scr h1 => exact .scr (e.seq h1)
theorem RpAll.mono (e : Same G G') : ∀ {ds : List PyData} {vs : List V}, RpAll K G vs ds → RpAll K G' vs ds
  | [], _, h => by cases h; exact .nil
  | d :: ds, _, h => by
    cases h with
    | cons h1 h2 => exact .cons (Rp.mono e h1) (RpAll.mono e h2)
end
theorem RpAll.length : ∀ {vs : List V} {ds : List PyData}, RpAll K G vs ds → vs.length = ds.length
  | _, _, .nil => rfl
  | _, _, .cons _ t => congrArg (· + 1) (RpAll.length t)
theorem RpAll.get : ∀ {vs : List V} {ds : List PyData} {i : Nat} {d : PyData}, RpAll K G vs ds → ds[i]? = some d → ∃ v, vs[i]? = some v ∧ Rp K G v d
  | _, _, _, _, .nil, e => by simp at e
  | _, _, 0, _, .cons r _, e => by simp at e; subst e; exact ⟨_, rfl, r⟩
  | _, _, i + 1, d, .cons _ t, e => by
    obtain ⟨u, h1, h2⟩ := RpAll.get (i := i) (d := d) t (by simpa using e)
    exact ⟨u, by simpa using h1, h2⟩
theorem RpAll.append : ∀ {vs ws : List V} {ds es : List PyData}, RpAll K G vs ds → RpAll K G ws es → RpAll K G (vs ++ ws) (ds ++ es)
  | _, _, _, _, .nil, s => s
  | _, _, _, _, .cons r t, s => .cons r (RpAll.append t s)
theorem RpAll.take : ∀ {vs : List V} {ds : List PyData} (n : Nat), RpAll K G vs ds → RpAll K G (vs.take n) (ds.take n)
  | _, _, 0, _ => .nil
  | _, _, _ + 1, .nil => .nil
  | _, _, n + 1, .cons r t => .cons r (RpAll.take n t)
theorem RpAll.drop : ∀ {vs : List V} {ds : List PyData} (n : Nat), RpAll K G vs ds → RpAll K G (vs.drop n) (ds.drop n)
  | _, _, 0, r => r
  | _, _, _ + 1, .nil => .nil
  | _, _, n + 1, .cons _ t => RpAll.drop n t
theorem RpAll.reverse : ∀ {vs : List V} {ds : List PyData}, RpAll K G vs ds → RpAll K G vs.reverse ds.reverse
  | _, _, .nil => .nil
  | _, _, .cons r t => by
    rw [List.reverse_cons, List.reverse_cons]
    exact (RpAll.reverse t).append (.cons r .nil)
theorem RpAll.set {v : V} {d : PyData} (r : Rp K G v d) : ∀ {vs : List V} {ds : List PyData} (i : Nat), RpAll K G vs ds → RpAll K G (vs.set i v) (ds.set i d)
  | _, _, _, .nil => .nil
  | _, _, 0, .cons _ t => .cons r t
  | _, _, i + 1, .cons q t => .cons q (RpAll.set r i t)
theorem RpAll.replicate {vs : List V} {ds : List PyData} (r : RpAll K G vs ds) : ∀ n : Nat, RpAll K G (List.replicate n vs).flatten (List.replicate n ds).flatten
  | 0 => .nil
  | n + 1 => by
    rw [List.replicate_succ, List.replicate_succ, List.flatten_cons, List.flatten_cons]
    exact r.append (RpAll.replicate r n)
theorem RpAll.ints : ∀ ns : List Int, RpAll K G (ns.map V.int) (ns.map PyData.int)
  | [] => .nil
  | n :: ns => .cons (.int n) (RpAll.ints ns)
theorem RpAll.of_ints : ∀ {vs : List V} {ns : List Int}, RpAll K G vs (ns.map PyData.int) → vs = ns.map V.int
  | _, [], h => by cases h; rfl
  | _, n :: ns, h => by
    cases h with
    | cons h1 h2 =>
      cases h1
      rw [RpAll.of_ints h2]
      rfl
end

/-! ### data without lists -/
mutual
def flat : PyData → Bool
  | .none | .bool _ | .int _ | .str _ => true
  | .list _ => false
  | .tuple ds => flats ds
  | .dict _ => false
def flats : List PyData → Bool
  | [] => true
  | d :: ds => flat d && flats ds
end

/-- no list at all -/
def NL (o : HO) : Prop := ∀ xs, o ≠ .lst xs
section
variable {K : PySem.W.Frag} {G G' : Hp}
theorem nl_sqT (e : ∀ a o, G a = some o → NL o → G' a = some o) {a : Addr} {xs : List V} (h : SqT K G a xs) : SqT K G' a xs := by
  rcases h with (h | ⟨o, h⟩) | h
  · exact .inl (.inl (e _ _ h fun ys z => by cases z))
  · exact .inl (.inr ⟨o, e _ _ h fun ys z => by cases z⟩)
  · exact .inr h
mutual
theorem Rp.flat (e : ∀ a o, G a = some o → NL o → G' a = some o) : ∀ {d : PyData} {v : V}, Mi.flat d = true → Rp K G v d → Rp K G' v d
  | .none, _, _, h => by cases h; exact .non
  | .bool b, _, _, h => by cases h; exact .bl b
  | .int i, _, _, h => by cases h; exact .int i
  | .str x, _, _, h => by cases h; exact .str x
  | .list ds, _, f, h => by simp [Mi.flat] at f
  | .tuple ds, _, f, h => by
    cases h with
    | tup h1 h2 => exact .tup (nl_sqT e h1) (RpAll.flats e (by simpa [Mi.flat] using f) h2)
  | .dict kvs, _, f, h => by simp [Mi.flat] at f
theorem RpAll.flats (e : ∀ a o, G a = some o → NL o → G' a = some o) : ∀ {ds : List PyData} {vs : List V}, Mi.flats ds = true → RpAll K G vs ds → RpAll K G' vs ds
  | [], _, _, h => by cases h; exact .nil
  | d :: ds, _, f, h => by
    have f' : Mi.flat d = true ∧ Mi.flats ds = true := by simpa [Mi.flats] using f
    cases h with
    | cons h1 h2 => exact .cons (Rp.flat e f'.1 h1) (RpAll.flats e f'.2 h2)
end
end

/-! ### frozen part, whole heap -/
structure Ext (G H G' H' : Hp) : Prop where
  sg : Same G G'
  sh : Same H H'
  sub : Same G' H'
  old : ∀ a o, H a = some o → G' a = G a
  nl : ∀ a o, H' a = some o → NL o → G' a = some o
theorem Ext.refl {G H : Hp} (s : Same G H) (n : ∀ a o, H a = some o → NL o → G a = some o) : Ext G H G H := ⟨.refl G, .refl H, s, fun _ _ _ => rfl, n⟩
theorem Ext.self {G H G' H' : Hp} (e : Ext G H G' H') : Ext G' H' G' H' := .refl e.sub e.nl
theorem Ext.trans {G H G1 H1 G2 H2 : Hp} (a : Ext G H G1 H1) (b : Ext G1 H1 G2 H2) : Ext G H G2 H2 :=
  ⟨a.sg.trans b.sg, a.sh.trans b.sh, b.sub, fun c o e => (b.old c o (a.sh c o e)).trans (a.old c o e), b.nl⟩
/-- a new object that is frozen at once -/
theorem Ext.new {G H G1 H1 : Hp} (e : Ext G H G1 H1) {p : Addr} {o : HO} (hp : H1 p = none) : Ext G H (upd G1 p o) (upd H1 p o) where
  sg := e.sg.trans (fun b u h => by rw [upd_ne (ne_of_none h (e.sub.free hp))]; exact h)
  sh := e.sh.trans (fun b u h => by rw [upd_ne (ne_of_none h hp)]; exact h)
  sub := fun b u h => by
    by_cases hb : b = p
    · subst hb; rw [upd_same] at h ⊢; exact h
    · rw [upd_ne hb] at h ⊢; exact e.sub b u h
  old := fun b u h => by
    rw [upd_ne (ne_of_none (e.sh b u h) hp)]
    exact e.old b u h
  nl := fun b u h n => by
    by_cases hb : b = p
    · subst hb; rw [upd_same] at h ⊢; exact h
    · rw [upd_ne hb] at h ⊢; exact e.nl b u h n
/-- a new list that is loose -/
theorem Ext.loose {G H G1 H1 : Hp} (e : Ext G H G1 H1) {p : Addr} {xs : List V} (hp : H1 p = none) : Ext G H G1 (upd H1 p (.lst xs)) where
  sg := e.sg
  sh := e.sh.trans (fun b u h => by rw [upd_ne (ne_of_none h hp)]; exact h)
  sub := fun b u h => by rw [upd_ne (ne_of_none (e.sub b u h) hp)]; exact e.sub b u h
  old := e.old
  nl := fun b u h n => by
    by_cases hb : b = p
    · subst hb; rw [upd_same] at h; cases h; exact absurd rfl (n xs)
    · rw [upd_ne hb] at h; exact e.nl b u h n
/-- a list is changed that is not frozen and was not there at first -/
theorem Ext.wrote {G H G1 H1 : Hp} (e : Ext G H G1 H1) {l : Addr} {xs ys : List V} (hl : H1 l = some (.lst xs)) (hg : G1 l = none) (h0 : H l = none) : Ext G H G1 (upd H1 l (.lst ys)) where
  sg := e.sg
  sh := fun b u h => by rw [upd_ne (ne_of_none h h0)]; exact e.sh b u h
  sub := fun b u h => by rw [upd_ne (ne_of_none h hg)]; exact e.sub b u h
  old := e.old
  nl := fun b u h n => by
    by_cases hb : b = l
    · subst hb; rw [upd_same] at h; cases h; exact absurd rfl (n ys)
    · rw [upd_ne hb] at h; exact e.nl b u h n
def off (G : Hp) (l : Addr) : Hp := fun a => if a = l then none else G a
theorem off_same {G : Hp} {l : Addr} : off G l l = none := if_pos rfl
theorem off_ne {G : Hp} {l a : Addr} (h : a ≠ l) : off G l a = G a := if_neg h
theorem off_sub {G : Hp} {l : Addr} : Same (off G l) G := fun b o h => by
  by_cases e : b = l
  · subst e; rw [off_same] at h; cases h
  · rw [off_ne e] at h; exact h
theorem off_mono {G G' : Hp} {l : Addr} (s : Same G G') : Same (off G l) (off G' l) := fun b o h => by
  by_cases e : b = l
  · subst e; rw [off_same] at h; cases h
  · rw [off_ne e] at h ⊢; exact s b o h
theorem off_of {G G' : Hp} {l : Addr} (s : Same G G') (h : G l = none) : Same G (off G' l) := fun b o e => by
  rw [off_ne (ne_of_none e h)]
  exact s b o e
theorem Ext.frz {G H G1 H1 : Hp} (e : Ext G H G1 H1) {l : Addr} {xs : List V} (hl : H1 l = some (.lst xs)) (h0 : H l = none) : Ext G H (upd G1 l (.lst xs)) H1 ∧ Same G1 (upd G1 l (.lst xs)) := by
  have s : Same G1 (upd G1 l (.lst xs)) := fun b u h => by
    by_cases hb : b = l
    · subst hb
      have := e.sub b u h
      rw [hl] at this; cases this
      exact upd_same
    · rw [upd_ne hb]; exact h
  refine ⟨⟨e.sg.trans s, e.sh, fun b u h => ?_, fun b u h => ?_, fun b u h n => s b u (e.nl b u h n)⟩, s⟩
  · by_cases hb : b = l
    · subst hb; rw [upd_same] at h; cases h; exact hl
    · rw [upd_ne hb] at h; exact e.sub b u h
  · rw [upd_ne (ne_of_none h h0)]; exact e.old b u h
theorem Ext.offer {G H G1 H1 : Hp} (e : Ext G H G1 H1) {l : Addr} {xs : List V} (hl : H1 l = some (.lst xs)) (h0 : H l = none) (g0 : G l = none) : Ext G H (off G1 l) H1 := by
  refine ⟨off_of e.sg g0, e.sh, off_sub.trans e.sub, fun b u h => ?_, fun b u h n => ?_⟩
  · rw [off_ne (ne_of_none h h0)]; exact e.old b u h
  · by_cases hb : b = l
    · subst hb; rw [hl] at h; cases h; exact absurd rfl (n xs)
    · rw [off_ne hb]; exact e.nl b u h n

/-! ### slots -/
structure Slot where
  own : Bool
  d : PyData
abbrev En := List (Option Slot)
/-- how a value lies: frozen; a list that some slot owns; a new list -/
inductive Tg where
  | fz | bo | fr
  deriving DecidableEq

def Loose (K : PySem.W.Frag) (G H : Hp) (d : PyData) (v : V) (l : Addr) : Prop := ∃ xs ds, v = .ref l ∧ d = .list ds ∧ H l = some (.lst xs) ∧ RpAll K (off G l) xs ds
def VOk (K : PySem.W.Frag) (Hs G H : Hp) (d : PyData) : Tg → V → Prop
  | .fz, v => Rp K G v d
  | .bo, v => ∃ l, Loose K G H d v l
  | .fr, v => ∃ l, Loose K G H d v l ∧ Hs l = none
inductive VOks (K : PySem.W.Frag) (Hs G H : Hp) : List (PyData × Tg) → List V → Prop
  | nil : VOks K Hs G H [] []
  | cons {d t v ds vs} : VOk K Hs G H d t v → VOks K Hs G H ds vs → VOks K Hs G H ((d, t) :: ds) (v :: vs)

section
variable {K : PySem.W.Frag} {Hs Hs' G G' H H' : Hp} {d : PyData} {t : Tg} {v : V}
theorem Loose.mono {l : Addr} (h : Loose K G H d v l) (sg : Same G G') (sh : Same H H') : Loose K G' H' d v l := by
  obtain ⟨xs, ds, e1, e2, e3, e4⟩ := h
  exact ⟨xs, ds, e1, e2, sh _ _ e3, e4.mono (off_mono sg)⟩
theorem Loose.rp {l : Addr} (h : Loose K G H d v l) (s : Same G H) : Rp K H v d := by
  obtain ⟨xs, ds, rfl, rfl, e3, e4⟩ := h
  exact .lst e3 (e4.mono (off_sub.trans s))
theorem VOk.mono (h : VOk K Hs G H d t v) (sg : Same G G') (sh : Same H H') : VOk K Hs G' H' d t v := by
  cases t with
  | fz => exact Rp.mono sg h
  | bo => obtain ⟨l, h⟩ := h; exact ⟨l, h.mono sg sh⟩
  | fr => obtain ⟨l, h, n⟩ := h; exact ⟨l, h.mono sg sh, n⟩
theorem VOk.start (h : VOk K Hs G H d t v) (s : Same Hs' Hs) : VOk K Hs' G H d t v := by
  cases t with
  | fz => exact h
  | bo => exact h
  | fr => obtain ⟨l, h, n⟩ := h; exact ⟨l, h, s.free n⟩
theorem VOk.rp (h : VOk K Hs G H d t v) (s : Same G H) : Rp K H v d := by
  cases t with
  | fz => exact Rp.mono s h
  | bo => obtain ⟨l, h⟩ := h; exact h.rp s
  | fr => obtain ⟨l, h, n⟩ := h; exact h.rp s
theorem VOks.mono : ∀ {ds : List (PyData × Tg)} {vs : List V}, VOks K Hs G H ds vs → Same G G' → Same H H' → VOks K Hs G' H' ds vs
  | _, _, .nil, _, _ => .nil
  | _, _, .cons h t, sg, sh => .cons (h.mono sg sh) (t.mono sg sh)
theorem VOks.start : ∀ {ds : List (PyData × Tg)} {vs : List V}, VOks K Hs G H ds vs → Same Hs' Hs → VOks K Hs' G H ds vs
  | _, _, .nil, _ => .nil
  | _, _, .cons h t, s => .cons (h.start s) (t.start s)
theorem VOks.rp : ∀ {ds : List (PyData × Tg)} {vs : List V}, VOks K Hs G H ds vs → Same G H → RpAll K H vs (ds.map (·.1))
  | _, _, .nil, _ => .nil
  | _, _, .cons h t, s => .cons (h.rp s) (t.rp s)
/-- new lists are frozen -/
theorem VOk.freeze {G0 H0 : Hp} (h : VOk K H0 G H d t v) (e : Ext G0 H0 G H) (ht : t ≠ .bo) : ∃ G', Ext G0 H0 G' H ∧ Same G G' ∧ Rp K G' v d := by
  cases t with
  | fz => exact ⟨G, e, .refl G, h⟩
  | bo => exact absurd rfl ht
  | fr =>
    obtain ⟨l, ⟨xs, ds, rfl, rfl, e3, e4⟩, n⟩ := h
    obtain ⟨e', s⟩ := e.frz e3 n
    exact ⟨_, e', s, .lst upd_same (e4.mono (off_sub.trans s))⟩
theorem VOks.freeze {G0 H0 : Hp} : ∀ {ds : List (PyData × Tg)} {vs : List V} {G : Hp}, VOks K H0 G H ds vs → Ext G0 H0 G H → (ds.all fun p => decide (p.2 ≠ .bo)) = true → ∃ G', Ext G0 H0 G' H ∧ Same G G' ∧ RpAll K G' vs (ds.map (·.1))
  | _, _, G, .nil, e, _ => ⟨G, e, .refl G, .nil⟩
  | _, _, G, .cons h t, e, f => by
    rw [List.all_cons, Bool.and_eq_true, decide_eq_true_eq] at f
    obtain ⟨G1, e1, s1, r1⟩ := h.freeze e f.1
    obtain ⟨G2, e2, s2, r2⟩ := VOks.freeze (t.mono s1 (.refl H)) e1 f.2
    exact ⟨G2, e2, s1.trans s2, .cons (r1.mono s2) r2⟩
end

def SlotOk (K : PySem.W.Frag) (H0 G H : Hp) (s : Slot) (v : V) : Prop :=
  if s.own = true then ∃ l xs ds, v = .ref l ∧ s.d = .list ds ∧ H l = some (.lst xs) ∧ G l = none ∧ H0 l = none ∧ RpAll K G xs ds else Rp K G v s.d
structure Rel (K : PySem.W.Frag) (G0 H0 : Hp) (en : En) (G H : Hp) (σ : L2.St) : Prop where
  ext : Ext G0 H0 G H
  len : en.length = σ.length
  slot : ∀ (i : Nat) (s : Slot), en[i]? = some (some s) → ∃ v, σ[i]? = some (some v) ∧ SlotOk K H0 G H s v
  dis : ∀ (i j : Nat) (s s' : Slot) (l : Addr), i ≠ j → en[i]? = some (some s) → en[j]? = some (some s') → s.own = true → s'.own = true → σ[i]? = some (some (.ref l)) → σ[j]? ≠ some (some (.ref l))
section
variable {K : PySem.W.Frag} {G0 H0 G H G' H' : Hp} {en : En} {σ : L2.St}
theorem SlotOk.ext {s : Slot} {v : V} (h : SlotOk K H0 G H s v) (e : Ext G H G' H') : SlotOk K H0 G' H' s v := by
  unfold SlotOk at h ⊢
  split
  · rename_i hs
    rw [if_pos hs] at h
    obtain ⟨l, xs, ds, e1, e2, e3, e4, e5, e6⟩ := h
    exact ⟨l, xs, ds, e1, e2, e.sh _ _ e3, (e.old _ _ e3).trans e4, e5, e6.mono e.sg⟩
  · rename_i hs
    rw [if_neg hs] at h
    exact h.mono e.sg
theorem Rel.step (r : Rel K G0 H0 en G H σ) (e : Ext G H G' H') : Rel K G0 H0 en G' H' σ :=
  ⟨r.ext.trans e, r.len, fun i s h => let ⟨v, h1, h2⟩ := r.slot i s h; ⟨v, h1, h2.ext e⟩, r.dis⟩
theorem getElem?_set_some {α : Type} {l : List (Option α)} {i j : Nat} {o : Option α} {a : α} (h : (l.set i o)[j]? = some (some a)) : (j = i ∧ o = some a ∧ i < l.length) ∨ (j ≠ i ∧ l[j]? = some (some a)) := by
  by_cases e : j = i
  · subst e
    by_cases hl : j < l.length
    · rw [List.getElem?_set_self hl] at h
      exact .inl ⟨rfl, Option.some.inj h, hl⟩
    · rw [List.getElem?_eq_none (by rw [List.length_set]; omega)] at h
      cases h
  · rw [List.getElem?_set_ne (Ne.symm e)] at h
    exact .inr ⟨e, h⟩
/-- a frozen datum is stored -/
theorem Rel.set (r : Rel K G0 H0 en G H σ) {v : V} {d : PyData} (h : Rp K G v d) (i : Nat) : Rel K G0 H0 (en.set i (some ⟨false, d⟩)) G H (σ.set i (some v)) := by
  refine ⟨r.ext, by rw [List.length_set, List.length_set]; exact r.len, fun j s e => ?_, fun j k s s' l hjk e1 e2 o1 o2 z => ?_⟩
  · rcases getElem?_set_some e with ⟨rfl, q, hl⟩ | ⟨hj, e'⟩
    · cases q
      refine ⟨v, List.getElem?_set_self (by rw [← r.len]; exact hl), ?_⟩
      unfold SlotOk
      rw [if_neg (show ¬ (false = true) by decide)]
      exact h
    · obtain ⟨w, e1, e2⟩ := r.slot j s e'
      exact ⟨w, by rw [List.getElem?_set_ne (Ne.symm hj)]; exact e1, e2⟩
  · rcases getElem?_set_some e1 with ⟨rfl, q, hl⟩ | ⟨hj, e1'⟩
    · cases q; cases o1
    · rcases getElem?_set_some e2 with ⟨rfl, q, hl⟩ | ⟨hk, e2'⟩
      · cases q; cases o2
      · rw [List.getElem?_set_ne (Ne.symm hj)] at z
        rw [List.getElem?_set_ne (Ne.symm hk)]
        exact r.dis j k s s' l hjk e1' e2' o1 o2 z
/-- a slot is forgotten -/
theorem Rel.unset (r : Rel K G0 H0 en G H σ) (i : Nat) (o : Option V) : Rel K G0 H0 (en.set i none) G H (σ.set i o) := by
  refine ⟨r.ext, by rw [List.length_set, List.length_set]; exact r.len, fun j s e => ?_, fun j k s s' l hjk e1 e2 o1 o2 z => ?_⟩
  · rcases getElem?_set_some e with ⟨rfl, q, hl⟩ | ⟨hj, e'⟩
    · cases q
    · obtain ⟨w, e1, e2⟩ := r.slot j s e'
      exact ⟨w, by rw [List.getElem?_set_ne (Ne.symm hj)]; exact e1, e2⟩
  · rcases getElem?_set_some e1 with ⟨rfl, q, hl⟩ | ⟨hj, e1'⟩
    · cases q
    · rcases getElem?_set_some e2 with ⟨rfl, q, hl⟩ | ⟨hk, e2'⟩
      · cases q
      · rw [List.getElem?_set_ne (Ne.symm hj)] at z
        rw [List.getElem?_set_ne (Ne.symm hk)]
        exact r.dis j k s s' l hjk e1' e2' o1 o2 z
theorem Rel.self (r : Rel K G0 H0 en G H σ) : Ext G H G H := r.ext.self
end
end Mi

set_option Elab.async false
set_option linter.all false
set_option maxRecDepth 100000
set_option maxHeartbeats 4000000
/-! The mini language, what must hold so that it goes through (wE, wS), and that this is monotone. -/
namespace Mi
open PySem PySem.Spec PyProof.Rows L2

inductive BOp where
  | add | sub | mul | fdiv | mod | pow | shl | shr | band | bor
inductive COp where
  | lt | le | gt | ge | eq | ne | is | isnot | isin | notin
inductive Bi where
  | len | abs | int | max | min | sum | tuple | list | repr
inductive Ty where
  | int | bool | str | tuple | list
  deriving DecidableEq
inductive Tt where
  | one (i : Nat) | many (is : List Nat)

mutual
inductive E where
  | var (i : Nat)
  | con (d : PyData)
  | glb (j : Nat)
  | neg (a : E)
  | bin (op : BOp) (a b : E)
  | cmp (op : COp) (a b : E)
  | chain (o1 o2 : COp) (a b c : E)
  | and (a b : E)
  | or (a b : E)
  | not (a : E)
  | ite (c a b : E)
  | tup (es : Es)
  | lst (es : Es)
  | idx (a i : E)
  | slc (a lo hi : E)
  | rev (a : E)
  | isi (t : Ty) (a : E)
  | step (a lo : E)
  | call (up : Bool) (j : Nat) (es : Es)
  | blt (b : Bi) (es : Es)
  | comp (own : List Nat) (tg : Tt) (it : It) (c b : E)
inductive Es where
  | nil
  | cons (e : E) (es : Es)
inductive It where
  | seq (e : E)
  | rng (lo hi : E)
  | rngc (lo hi : E) (c : Int)
  | rev (e : E)
end

abbrev LIM : Nat := 1000000
def mulOk (i j : Int) : Prop := i.natAbs.log2 + j.natAbs.log2 < 100000000
def fdivOk (i j : Int) : Prop := j ≠ 0 ∧ (j.natAbs.log2 < 9000 ∨ Builtin.Int.intBits i ≤ Builtin.Int.intBits j + 4000)
abbrev okD (d : PyData) : Prop := SeqAt.shaped d = true
def atD (ds : List PyData) (i : Int) : Option PyData := (ixN ds.length i).bind fun j => ds[j]?
def cutD (ds : List PyData) (lo hi : Option Int) : List PyData := (ds.drop (HT.sIx ds.length 0 lo)).take (HT.sIx ds.length ds.length hi - HT.sIx ds.length 0 lo)

def binW : BOp → PyData → PyData → (PyData → Tg → Prop) → Prop
  | .add, .int i, .int j, Q => Q (.int (i + j)) .fz
  | .add, .list xs, .list ys, Q => xs.length + ys.length ≤ LIM ∧ Q (.list (xs ++ ys)) .fr
  | .add, .tuple xs, .tuple ys, Q => xs.length + ys.length ≤ LIM ∧ Q (.tuple (xs ++ ys)) .fz
  | .sub, .int i, .int j, Q => Q (.int (i - j)) .fz
  | .mul, .int i, .int j, Q => mulOk i j ∧ Q (.int (i * j)) .fz
  | .mul, .list xs, .int k, Q => 0 ≤ k ∧ k ≤ 1000 ∧ xs.length ≤ 1000 ∧ Q (.list (List.replicate k.toNat xs).flatten) .fr
  | .mul, .tuple xs, .int k, Q => xs ≠ [] ∧ 2 ≤ k ∧ k ≤ 1000 ∧ xs.length ≤ 1000 ∧ Q (.tuple (List.replicate k.toNat xs).flatten) .fz
  | .fdiv, .int i, .int j, Q => fdivOk i j ∧ Q (.int (i.fdiv j)) .fz
  | .mod, .int i, .int j, Q => j ≠ 0 ∧ Q (.int (i.fmod j)) .fz
  | .pow, .int i, .int j, Q => CPow i j ∧ Q (.int (i ^ j.toNat)) .fz
  | .shl, .int i, .int j, Q => CPow i j ∧ Q (.int (i * 2 ^ j.toNat)) .fz
  | .shr, .int i, .int j, Q => 0 ≤ j ∧ Q (.int (i / 2 ^ j.toNat)) .fz
  | .band, .int i, .int j, Q => Q (.int (Builtin.bitAnd i j)) .fz
  | .bor, .int i, .int j, Q => Q (.int (Builtin.bitOr i j)) .fz
  | _, _, _, _ => False
def isNone : PyData → Bool
  | .none => true
  | _ => false
def cmpW : COp → PyData → PyData → (Bool → Prop) → Prop
  | .lt, .int i, .int j, Q => Q (decide (i < j))
  | .le, .int i, .int j, Q => Q (decide (i ≤ j))
  | .gt, .int i, .int j, Q => Q (decide (j < i))
  | .ge, .int i, .int j, Q => Q (decide (j ≤ i))
  | .eq, a, b, Q => okD a ∧ okD b ∧ Q (PyData.eqv a b)
  | .ne, a, b, Q => okD a ∧ okD b ∧ Q (!PyData.eqv a b)
  | .is, a, .none, Q => Q (isNone a)
  | .isnot, a, .none, Q => Q (!isNone a)
  | .is, .bool a, .bool b, Q => Q (decide (a = b))
  | .isnot, .bool a, .bool b, Q => Q (!decide (a = b))
  | .isin, a, .list ds, Q => okD a ∧ okD (.list ds) ∧ Q (ds.any fun z => PyData.eqv z a)
  | .notin, a, .list ds, Q => okD a ∧ okD (.list ds) ∧ Q (!ds.any fun z => PyData.eqv z a)
  | _, _, _, _ => False
def negW : PyData → (PyData → Prop) → Prop
  | .int i, Q => Q (.int (-i))
  | _, _ => False
def boolW : PyData → (Bool → Prop) → Prop
  | .bool b, Q => Q b
  | _, _ => False
def optInt : Bool → PyData → (Option Int → Prop) → Prop
  | true, .none, Q => Q none
  | false, .int i, Q => Q (some i)
  | _, _, _ => False
def isNon : E → Bool
  | .con .none => true
  | _ => false
def idxW : PyData → PyData → (PyData → Prop) → Prop
  | .list ds, .int k, Q => ∃ d, atD ds k = some d ∧ Q d
  | .tuple ds, .int k, Q => ∃ d, atD ds k = some d ∧ Q d
  | _, _, _ => False
def slcW : PyData → Option Int → Option Int → (PyData → Tg → Prop) → Prop
  | .list ds, lo, hi, Q => Q (.list (cutD ds lo hi)) .fr
  | .tuple ds, lo, hi, Q => Q (.tuple (cutD ds lo hi)) .fz
  | .dict [(.none, .list ds)], lo, hi, Q => Q (.list (cutD ds lo hi)) .fr
  | _, _, _, _ => False
def revW : PyData → (PyData → Tg → Prop) → Prop
  | .list ds, Q => Q (.list ds.reverse) .fr
  | _, _ => False
def max2 (i j : Int) : Int := if j > i then j else i
def min2 (i j : Int) : Int := if j < i then j else i
/-- the data's text may be made -/
def reprOk (d : PyData) : Prop := okD d ∧ d.showable = true ∧ d.shown.length ≤ sizeLine ∧ d.depth ≤ 60
def isD (t : Ty) : PyData → Bool
  | .int _ => t == .int
  | .bool _ => t == .int || t == .bool
  | .str _ => t == .str
  | .tuple _ => t == .tuple
  | .list _ => t == .list
  | _ => false
def isW (t : Ty) : PyData → (Bool → Prop) → Prop
  | .dict _, _ => False
  | d, Q => Q (isD t d)
/-- some of the list's items -/
def stepW : PyData → PyData → (PyData → Tg → Prop) → Prop
  | .list ds, .int i, Q => ∀ es : List PyData, (∀ e, e ∈ es → e ∈ ds) → es.length ≤ ds.length → Q (.list es) .fr
  | _, _, _ => False
def biW : Bi → List PyData → (PyData → Tg → Prop) → Prop
  | .len, [.list ds], Q => Q (.int ds.length) .fz
  | .len, [.tuple ds], Q => Q (.int ds.length) .fz
  | .abs, [.int i], Q => Q (.int (if i < 0 then -i else i)) .fz
  | .int, [.int i], Q => Q (.int i) .fz
  | .int, [.bool b], Q => Q (.int (if b then 1 else 0)) .fz
  | .max, [.int i, .int j], Q => Q (.int (max2 i j)) .fz
  | .max, [.int i, .int j, .int k], Q => Q (.int (max2 (max2 i j) k)) .fz
  | .min, [.int i, .int j], Q => Q (.int (min2 i j)) .fz
  | .sum, [.list ds], Q => ∃ ns : List Int, ds = ns.map PyData.int ∧ Q (.int ns.sum) .fz
  | .tuple, [.list ds], Q => Q (.tuple ds) .fz
  | .tuple, [.tuple ds], Q => Q (.tuple ds) .fz
  | .list, [.list ds], Q => Q (.list ds) .fr
  | .list, [.tuple ds], Q => Q (.list ds) .fr
  | .repr, [d], Q => reprOk d ∧ Q (.str d.shown) .fz
  | _, _, _ => False

abbrev Spc := List PyData → (PyData → Prop) → Prop

def wipeE (en : En) : List Nat → En
  | [] => en
  | v :: vs => (wipeE en vs).set v none
def setM : En → List Nat → List PyData → En
  | en, i :: is, d :: ds => setM (en.set i (some ⟨false, d⟩)) is ds
  | en, _, _ => en
def tgW : Tt → PyData → En → (En → Prop) → Prop
  | .one i, d, en, Q => Q (en.set i (some ⟨false, d⟩))
  | .many is, .tuple ds, en, Q => ds.length = is.length ∧ Q (setM en is ds)
  | .many is, .list ds, en, Q => ds.length = is.length ∧ Q (setM en is ds)
  | .many _, _, _, _ => False
def compW (f : PyData → (Option PyData → Prop) → Prop) : List PyData → List PyData → (List PyData → Prop) → Prop
  | [], acc, Q => Q acc
  | x :: xs, acc, Q => f x fun r => match r with
    | none => compW f xs acc Q
    | some y => acc.length < LIM ∧ compW f xs (acc ++ [y]) Q
def anyBo (ps : List (PyData × Tg)) : Bool := ps.any fun p => decide (p.2 = .bo)
def flatL : PyData → Bool
  | .list ds => flats ds
  | _ => false
def callW (up : Bool) (ps : List (PyData × Tg)) (d : PyData) (Q : PyData → Tg → Prop) : Prop :=
  if up = true then flats (ps.map (·.1)) = true ∧ flatL d = true ∧ Q d .fr
  else if anyBo ps = true then flat d = true ∧ Q d .fz
  else Q d .fz
def rangeD (lo : Int) (n : Nat) : List PyData := (List.range n).map fun k => .int (lo + (k : Nat))
def rangeCD (lo c : Int) (n : Nat) : List PyData := (List.range n).map fun k => .int (lo + (k : Nat) * c)
section
variable (F : Nat → Spc) (C : Nat → PyData)
mutual
def wE : E → En → (PyData → Tg → Prop) → Prop
  | .var i, en, Q => match en[i]? with
    | some (some s) => Q s.d (if s.own = true then .bo else .fz)
    | _ => False
  | .con d, _, Q => Q d .fz
  | .glb j, _, Q => Q (C j) .fz
  | .neg a, en, Q => wE a en fun d _ => negW d fun r => Q r .fz
  | .bin op a b, en, Q => wE a en fun d _ => wE b en fun e _ => binW op d e Q
  | .cmp op a b, en, Q => wE a en fun d _ => wE b en fun e _ => cmpW op d e fun r => Q (.bool r) .fz
  | .chain o1 o2 a b c, en, Q => wE a en fun d _ => wE b en fun e _ => cmpW o1 d e fun r => if r = true then wE c en fun g _ => cmpW o2 e g fun r => Q (.bool r) .fz else Q (.bool false) .fz
  | .and a b, en, Q => wE a en fun d _ => boolW d fun r => if r = true then wE b en Q else Q (.bool false) .fz
  | .or a b, en, Q => wE a en fun d _ => boolW d fun r => if r = true then Q (.bool true) .fz else wE b en Q
  | .not a, en, Q => wE a en fun d _ => boolW d fun r => Q (.bool (!r)) .fz
  | .ite c a b, en, Q => wE c en fun d _ => boolW d fun r => if r = true then wE a en Q else wE b en Q
  | .tup es, en, Q => wEs es en fun ps => anyBo ps = false ∧ ps.length ≤ 1000 ∧ Q (.tuple (ps.map (·.1))) .fz
  | .lst es, en, Q => wEs es en fun ps => anyBo ps = false ∧ ps.length ≤ 1000 ∧ Q (.list (ps.map (·.1))) .fr
  | .idx a i, en, Q => wE a en fun d _ => wE i en fun e _ => idxW d e fun r => Q r .fz
  | .slc a lo hi, en, Q => wE a en fun d _ => wE lo en fun l _ => optInt (isNon lo) l fun l' => wE hi en fun h _ => optInt (isNon hi) h fun h' => slcW d l' h' Q
  | .rev a, en, Q => wE a en fun d _ => revW d Q
  | .isi t a, en, Q => wE a en fun d _ => isW t d fun r => Q (.bool r) .fz
  | .step a lo, en, Q => wE a en fun d _ => wE lo en fun e _ => stepW d e Q
  | .call up j es, en, Q => wEs es en fun ps => F j (ps.map (·.1)) fun d => callW up ps d Q
  | .blt b es, en, Q => wEs es en fun ps => biW b (ps.map (·.1)) Q
  | .comp own tg it c b, en, Q => wIt it en fun ds _ => compW (fun x k => tgW tg x (wipeE en own) fun en' => wE c en' fun dc _ => boolW dc fun r => if r = true then wE b en' fun y t => t ≠ .bo ∧ k (some y) else k none) ds [] fun r => Q (.list r) .fr
def wEs : Es → En → (List (PyData × Tg) → Prop) → Prop
  | .nil, _, Q => Q []
  | .cons e es, en, Q => wE e en fun d t => wEs es en fun ps => Q ((d, t) :: ps)
def wIt : It → En → (List PyData → Tg → Prop) → Prop
  | .seq e, en, Q => wE e en fun d t => match d with
    | .list ds => Q ds t
    | .tuple ds => Q ds .fz
    | _ => False
  | .rng lo hi, en, Q => wE lo en fun d _ => wE hi en fun e _ => match d, e with
    | .int i, .int j => (-(2 ^ 62) ≤ i ∧ i < 2 ^ 62 ∧ -(2 ^ 62) ≤ j ∧ j < 2 ^ 62) ∧ Q (rangeD i (j - i).toNat) .fz
    | _, _ => False
  | .rngc lo hi c, en, Q => wE lo en fun d _ => wE hi en fun e _ => match d, e with
    | .int i, .int j => ∃ n : Nat, RgC i j c n ∧ Q (rangeCD i c n) .fz
    | _, _ => False
  | .rev e, en, Q => wE e en fun d t => match d with
    | .list ds => Q ds.reverse t
    | _ => False
end

/-! ### statements -/
mutual
inductive S where
  | set (fz own : Bool) (i : Nat) (e : E)
  | unp (fz : Bool) (is : List Nat) (e : E)
  | par (is : List Nat) (es : Es)
  | app (i : Nat) (e : E)
  | ext (i : Nat) (e : E)
  | ins (i : Nat) (a e : E)
  | seti (i : Nat) (a e : E)
  | pop (tg : Tt) (i : Nat)
  | ifs (c : E) (a b : Ss)
  | whl (c : E) (b : Ss)
  | for_ (fz : Bool) (tg : Tt) (it : It) (b : Ss)
  | ret (e : E)
  | retn
  | drop (e : E)
  | brk
  | cont
  | pass
  | nev
inductive Ss where
  | nil
  | cons (s : S) (ss : Ss)
end
structure Dn where
  nx : En → Prop
  rt : PyData → Prop
  bk : En → Prop
  ct : En → Prop
def frz (en : En) : En := en.map (Option.map fun s => ⟨false, s.d⟩)
def frzIf (b : Bool) (en : En) : En := if b = true then frz en else en
def whileW (c : En → (Bool → Prop) → Prop) (b : En → Dn → Prop) (D : Dn) : Nat → En → Prop
  | 0, _ => False
  | n + 1, en => c en fun t => if t = true then b en { nx := whileW c b D n, ct := whileW c b D n, bk := D.nx, rt := D.rt } else D.nx en
def forW (f : PyData → En → Dn → Prop) : List PyData → En → Dn → Prop
  | [], en, D => D.nx en
  | d :: ds, en, D => f d en { nx := fun en' => forW f ds en' D, ct := fun en' => forW f ds en' D, bk := D.nx, rt := D.rt }
/-- the list that slot i owns -/
def ownW (en : En) (i : Nat) (Q : List PyData → Prop) : Prop := match en[i]? with
  | some (some ⟨true, .list ds⟩) => Q ds
  | _ => False
def setiW (ds : List PyData) : PyData → (Nat → Prop) → Prop
  | .int k, Q => ∃ j, ixN ds.length k = some j ∧ Q j
  | _, _ => False
def insW (ds : List PyData) : PyData → (Nat → Prop) → Prop
  | .int k, Q => 0 ≤ k ∧ k < 2 ^ 63 ∧ Q k.toNat
  | _, _ => False
mutual
def wS : S → En → Dn → Prop
  | .set fz own i e, en, D => wE F C e (frzIf fz en) fun d t => t ≠ .bo ∧ D.nx ((frzIf fz en).set i (some ⟨own && decide (t = .fr), d⟩))
  | .unp fz is e, en, D => wE F C e (frzIf fz en) fun d _ => tgW (.many is) d (frzIf fz en) D.nx
  | .par is es, en, D => wEs F C es en fun ps => anyBo ps = false ∧ ps.length = is.length ∧ D.nx (setM en is (ps.map (·.1)))
  | .app i e, en, D => ownW en i fun ds => wE F C e en fun d t => t ≠ .bo ∧ ds.length < LIM ∧ D.nx (en.set i (some ⟨true, .list (ds ++ [d])⟩))
  | .ext i e, en, D => ownW en i fun ds => wE F C e en fun d _ => match d with
    | .list es => ds.length + es.length ≤ LIM ∧ D.nx (en.set i (some ⟨true, .list (ds ++ es)⟩))
    | _ => False
  | .ins i a e, en, D => ownW en i fun ds => wE F C a en fun x _ => wE F C e en fun d t => t ≠ .bo ∧ ds.length < LIM ∧ insW ds x fun j => D.nx (en.set i (some ⟨true, .list (ds.take j ++ [d] ++ ds.drop j)⟩))
  | .seti i a e, en, D => ownW en i fun ds => wE F C e en fun d t => wE F C a en fun x _ => t ≠ .bo ∧ setiW ds x fun j => D.nx (en.set i (some ⟨true, .list (ds.set j d)⟩))
  | .pop tg i, en, D => ownW en i fun ds => ∃ d, ds[ds.length - 1]? = some d ∧ tgW tg d (en.set i (some ⟨true, .list ds.dropLast⟩)) D.nx
  | .ifs c a b, en, D => wE F C c en fun d _ => boolW d fun r => if r = true then wSs a en D else wSs b en D
  | .whl c b, en, D => ∃ n, whileW (fun en Q => wE F C c en fun d _ => boolW d Q) (wSs b) D n en
  | .for_ fz tg it b, en, D => wIt F C it (frzIf fz en) fun ds t => t ≠ .bo ∧ forW (fun d en' D' => tgW tg d en' fun en'' => wSs b en'' D') ds (frzIf fz en) D
  | .ret e, en, D => wE F C e (frz en) fun d t => t ≠ .bo ∧ D.rt d
  | .retn, _, D => D.rt .none
  | .drop e, en, D => wE F C e en fun _ _ => D.nx en
  | .brk, en, D => D.bk en
  | .cont, en, D => D.ct en
  | .pass, en, D => D.nx en
  | .nev, _, _ => False
def wSs : Ss → En → Dn → Prop
  | .nil, en, D => D.nx en
  | .cons s ss, en, D => wS s en { D with nx := fun en' => wSs ss en' D }
end
/-- a def's body at its arguments, with room for n names in all -/
def wDef (m : Ss) (n : Nat) (ds : List PyData) (Q : PyData → Prop) : Prop :=
  wSs F C m (ds.map (fun d => some ⟨false, d⟩) ++ List.replicate (n - ds.length) none) { nx := fun _ => Q .none, rt := Q, bk := fun _ => False, ct := fun _ => False }
end

/-! ### monotone -/
def MonoS (φ : Spc) : Prop := ∀ ds (Q Q' : PyData → Prop), (∀ d, Q d → Q' d) → φ ds Q → φ ds Q'
theorem binW_mono {op : BOp} {a b : PyData} {Q Q' : PyData → Tg → Prop} (h : ∀ d t, Q d t → Q' d t) (w : binW op a b Q) : binW op a b Q' := by
  unfold binW at w ⊢
  split at w <;> first
    | exact h _ _ w
    | exact ⟨w.1, h _ _ w.2⟩
    | exact ⟨w.1, w.2.1, w.2.2.1, h _ _ w.2.2.2⟩
    | exact ⟨w.1, w.2.1, w.2.2.1, w.2.2.2.1, h _ _ w.2.2.2.2⟩
    | exact w.elim
theorem cmpW_mono {op : COp} {a b : PyData} {Q Q' : Bool → Prop} (h : ∀ r, Q r → Q' r) (w : cmpW op a b Q) : cmpW op a b Q' := by
  unfold cmpW at w ⊢
  split at w <;> first
    | exact h _ w
    | exact ⟨w.1, w.2.1, h _ w.2.2⟩
    | exact w.elim
theorem negW_mono {a : PyData} {Q Q' : PyData → Prop} (h : ∀ r, Q r → Q' r) (w : negW a Q) : negW a Q' := by
  unfold negW at w ⊢
  split at w <;> first | exact h _ w | exact w.elim
theorem isW_mono {t : Ty} {a : PyData} {Q Q' : Bool → Prop} (h : ∀ r, Q r → Q' r) (w : isW t a Q) : isW t a Q' := by
  cases a <;> first | exact h _ w | exact w.elim
theorem stepW_mono {a b : PyData} {Q Q' : PyData → Tg → Prop} (h : ∀ d t, Q d t → Q' d t) (w : stepW a b Q) : stepW a b Q' := by
  unfold stepW at w ⊢
  split at w
  · exact fun es h1 h2 => h _ _ (w es h1 h2)
  · exact w.elim
theorem boolW_mono {a : PyData} {Q Q' : Bool → Prop} (h : ∀ r, Q r → Q' r) (w : boolW a Q) : boolW a Q' := by
  unfold boolW at w ⊢
  split at w <;> first | exact h _ w | exact w.elim
theorem optInt_mono {k : Bool} {a : PyData} {Q Q' : Option Int → Prop} (h : ∀ r, Q r → Q' r) (w : optInt k a Q) : optInt k a Q' := by
  unfold optInt at w ⊢
  split at w <;> first | exact h _ w | exact w.elim
theorem idxW_mono {a b : PyData} {Q Q' : PyData → Prop} (h : ∀ r, Q r → Q' r) (w : idxW a b Q) : idxW a b Q' := by
  unfold idxW at w ⊢
  split at w <;> first | (obtain ⟨d, e, q⟩ := w; exact ⟨d, e, h _ q⟩) | exact w.elim
theorem slcW_mono {a : PyData} {lo hi : Option Int} {Q Q' : PyData → Tg → Prop} (h : ∀ r t, Q r t → Q' r t) (w : slcW a lo hi Q) : slcW a lo hi Q' := by
  unfold slcW at w ⊢
  split at w <;> first | exact h _ _ w | exact w.elim
theorem revW_mono {a : PyData} {Q Q' : PyData → Tg → Prop} (h : ∀ r t, Q r t → Q' r t) (w : revW a Q) : revW a Q' := by
  unfold revW at w ⊢
  split at w <;> first | exact h _ _ w | exact w.elim
theorem biW_mono {b : Bi} {ds : List PyData} {Q Q' : PyData → Tg → Prop} (h : ∀ r t, Q r t → Q' r t) (w : biW b ds Q) : biW b ds Q' := by
  unfold biW at w ⊢
  split at w <;> first | exact h _ _ w | (obtain ⟨d, e, q⟩ := w; exact ⟨d, e, h _ _ q⟩) | exact ⟨w.1, h _ _ w.2⟩ | exact w.elim
theorem tgW_mono {t : Tt} {d : PyData} {en : En} {Q Q' : En → Prop} (h : ∀ r, Q r → Q' r) (w : tgW t d en Q) : tgW t d en Q' := by
  unfold tgW at w ⊢
  split at w <;> first | exact h _ w | exact ⟨w.1, h _ w.2⟩ | exact w.elim
theorem callW_mono {up : Bool} {ps : List (PyData × Tg)} {d : PyData} {Q Q' : PyData → Tg → Prop} (h : ∀ r t, Q r t → Q' r t) (w : callW up ps d Q) : callW up ps d Q' := by
  unfold callW at w ⊢
  split at w
  · rename_i e; rw [if_pos e]; exact ⟨w.1, w.2.1, h _ _ w.2.2⟩
  · rename_i e; rw [if_neg e]
    split at w
    · rename_i e; rw [if_pos e]; exact ⟨w.1, h _ _ w.2⟩
    · rename_i e; rw [if_neg e]; exact h _ _ w
theorem ite_mono {c A B A' B' : Prop} [Decidable c] (h1 : A → A') (h2 : B → B') (w : if c then A else B) : if c then A' else B' := by
  split at w
  · rename_i e; rw [if_pos e]; exact h1 w
  · rename_i e; rw [if_neg e]; exact h2 w
theorem compW_mono {f f' : PyData → (Option PyData → Prop) → Prop} (hf : ∀ x (k k' : Option PyData → Prop), (∀ r, k r → k' r) → f x k → f' x k') :
    ∀ (xs acc : List PyData) (Q Q' : List PyData → Prop), (∀ r, Q r → Q' r) → compW f xs acc Q → compW f' xs acc Q'
  | [], acc, Q, Q', h, w => h _ w
  | x :: xs, acc, Q, Q', h, w => hf x _ _ (fun r q => by
      cases r with
      | none => exact compW_mono hf xs acc Q Q' h q
      | some y => exact ⟨q.1, compW_mono hf xs _ Q Q' h q.2⟩) w
section
variable {F : Nat → Spc} {C : Nat → PyData}
mutual
theorem wE_mono (hF : ∀ j, MonoS (F j)) : ∀ (e : E) (en : En) (Q Q' : PyData → Tg → Prop), (∀ d t, Q d t → Q' d t) → wE F C e en Q → wE F C e en Q'
  | .var i, en, Q, Q', h, w => by
    rw [wE] at w ⊢
    split at w
    · exact h _ _ w
    · exact w.elim
  | .con d, _, Q, Q', h, w => by rw [wE] at w ⊢; exact h _ _ w
  | .glb j, _, Q, Q', h, w => by rw [wE] at w ⊢; exact h _ _ w
  | .neg a, en, Q, Q', h, w => by
    rw [wE] at w ⊢
    exact wE_mono hF a en _ _ (fun d t q => negW_mono (fun r q => h _ _ q) q) w
  | .bin op a b, en, Q, Q', h, w => by
    rw [wE] at w ⊢
    exact wE_mono hF a en _ _ (fun d t q => wE_mono hF b en _ _ (fun d t q => binW_mono h q) q) w
  | .cmp op a b, en, Q, Q', h, w => by
    rw [wE] at w ⊢
    exact wE_mono hF a en _ _ (fun d t q => wE_mono hF b en _ _ (fun d t q => cmpW_mono (fun r q => h _ _ q) q) q) w
  | .chain o1 o2 a b c, en, Q, Q', h, w => by
    rw [wE] at w ⊢
    exact wE_mono hF a en _ _ (fun d t q => wE_mono hF b en _ _ (fun d t q => cmpW_mono (fun r q => ite_mono (fun q => wE_mono hF c en _ _ (fun d t q => cmpW_mono (fun r q => h _ _ q) q) q) (fun q => h _ _ q) q) q) q) w
  | .and a b, en, Q, Q', h, w => by
    rw [wE] at w ⊢
    exact wE_mono hF a en _ _ (fun d t q => boolW_mono (fun r q => ite_mono (fun q => wE_mono hF b en _ _ h q) (fun q => h _ _ q) q) q) w
  | .or a b, en, Q, Q', h, w => by
    rw [wE] at w ⊢
    exact wE_mono hF a en _ _ (fun d t q => boolW_mono (fun r q => ite_mono (fun q => h _ _ q) (fun q => wE_mono hF b en _ _ h q) q) q) w
  | .not a, en, Q, Q', h, w => by
    rw [wE] at w ⊢
    exact wE_mono hF a en _ _ (fun d t q => boolW_mono (fun r q => h _ _ q) q) w
  | .ite c a b, en, Q, Q', h, w => by
    rw [wE] at w ⊢
    exact wE_mono hF c en _ _ (fun d t q => boolW_mono (fun r q => ite_mono (fun q => wE_mono hF a en _ _ h q) (fun q => wE_mono hF b en _ _ h q) q) q) w
  | .tup es, en, Q, Q', h, w => by
    rw [wE] at w ⊢
    exact wEs_mono hF es en _ _ (fun ps q => ⟨q.1, q.2.1, h _ _ q.2.2⟩) w
  | .lst es, en, Q, Q', h, w => by
    rw [wE] at w ⊢
    exact wEs_mono hF es en _ _ (fun ps q => ⟨q.1, q.2.1, h _ _ q.2.2⟩) w
  | .idx a i, en, Q, Q', h, w => by
    rw [wE] at w ⊢
    exact wE_mono hF a en _ _ (fun d t q => wE_mono hF i en _ _ (fun d t q => idxW_mono (fun r q => h _ _ q) q) q) w
  | .slc a lo hi, en, Q, Q', h, w => by
    rw [wE] at w ⊢
    exact wE_mono hF a en _ _ (fun d t q => wE_mono hF lo en _ _ (fun d t q => optInt_mono (fun r q => wE_mono hF hi en _ _ (fun d t q => optInt_mono (fun r q => slcW_mono h q) q) q) q) q) w
  | .rev a, en, Q, Q', h, w => by
    rw [wE] at w ⊢
    exact wE_mono hF a en _ _ (fun d t q => revW_mono h q) w
  | .isi t a, en, Q, Q', h, w => by
    rw [wE] at w ⊢
    exact wE_mono hF a en _ _ (fun d t q => isW_mono (fun r q => h _ _ q) q) w
  | .step a lo, en, Q, Q', h, w => by
    rw [wE] at w ⊢
    exact wE_mono hF a en _ _ (fun d t q => wE_mono hF lo en _ _ (fun d t q => stepW_mono h q) q) w
  | .call up j es, en, Q, Q', h, w => by
    rw [wE] at w ⊢
    exact wEs_mono hF es en _ _ (fun ps q => hF j _ _ _ (fun d q => callW_mono h q) q) w
  | .blt b es, en, Q, Q', h, w => by
    rw [wE] at w ⊢
    exact wEs_mono hF es en _ _ (fun ps q => biW_mono h q) w
  | .comp own tg it c b, en, Q, Q', h, w => by
    rw [wE] at w ⊢
    exact wIt_mono hF it en _ _ (fun ds t q => compW_mono (fun x k k' hk q => tgW_mono (fun en' q => wE_mono hF c en' _ _ (fun d t q => boolW_mono (fun r q => ite_mono (fun q => wE_mono hF b en' _ _ (fun d t q => ⟨q.1, hk _ q.2⟩) q) (fun q => hk _ q) q) q) q) q) ds [] _ _ (fun r q => h _ _ q) q) w
theorem wEs_mono (hF : ∀ j, MonoS (F j)) : ∀ (es : Es) (en : En) (Q Q' : List (PyData × Tg) → Prop), (∀ ps, Q ps → Q' ps) → wEs F C es en Q → wEs F C es en Q'
  | .nil, en, Q, Q', h, w => by rw [wEs] at w ⊢; exact h _ w
  | .cons e es, en, Q, Q', h, w => by
    rw [wEs] at w ⊢
    exact wE_mono hF e en _ _ (fun d t q => wEs_mono hF es en _ _ (fun ps q => h _ q) q) w
theorem wIt_mono (hF : ∀ j, MonoS (F j)) : ∀ (it : It) (en : En) (Q Q' : List PyData → Tg → Prop), (∀ ds t, Q ds t → Q' ds t) → wIt F C it en Q → wIt F C it en Q'
  | .seq e, en, Q, Q', h, w => by
    rw [wIt] at w ⊢
    exact wE_mono hF e en _ _ (fun d t q => by cases d <;> first | exact h _ _ q | exact q.elim) w
  | .rng lo hi, en, Q, Q', h, w => by
    rw [wIt] at w ⊢
    exact wE_mono hF lo en _ _ (fun d t q => wE_mono hF hi en _ _ (fun d' t q => by cases d <;> cases d' <;> first | exact ⟨q.1, h _ _ q.2⟩ | exact q.elim) q) w
  | .rngc lo hi c, en, Q, Q', h, w => by
    rw [wIt] at w ⊢
    exact wE_mono hF lo en _ _ (fun d t q => wE_mono hF hi en _ _ (fun d' t q => by cases d <;> cases d' <;> first | exact (let ⟨n, q1, q2⟩ := q; ⟨n, q1, h _ _ q2⟩) | exact q.elim) q) w
  | .rev e, en, Q, Q', h, w => by
    rw [wIt] at w ⊢
    exact wE_mono hF e en _ _ (fun d t q => by cases d <;> first | exact h _ _ q | exact q.elim) w
end
structure Dn.Le (D D' : Dn) : Prop where
  nx : ∀ en, D.nx en → D'.nx en
  rt : ∀ d, D.rt d → D'.rt d
  bk : ∀ en, D.bk en → D'.bk en
  ct : ∀ en, D.ct en → D'.ct en
theorem ownW_mono {en : En} {i : Nat} {Q Q' : List PyData → Prop} (h : ∀ ds, Q ds → Q' ds) (w : ownW en i Q) : ownW en i Q' := by
  unfold ownW at w ⊢
  split at w
  · exact h _ w
  · exact w.elim
theorem insW_mono {ds : List PyData} {x : PyData} {Q Q' : Nat → Prop} (h : ∀ j, Q j → Q' j) (w : insW ds x Q) : insW ds x Q' := by
  unfold insW at w ⊢
  split at w <;> first | exact ⟨w.1, w.2.1, h _ w.2.2⟩ | exact w.elim
theorem setiW_mono {ds : List PyData} {x : PyData} {Q Q' : Nat → Prop} (h : ∀ j, Q j → Q' j) (w : setiW ds x Q) : setiW ds x Q' := by
  unfold setiW at w ⊢
  split at w <;> first | (obtain ⟨j, e, q⟩ := w; exact ⟨j, e, h _ q⟩) | exact w.elim
theorem whileW_mono {c : En → (Bool → Prop) → Prop} {b : En → Dn → Prop} (hc : ∀ en (Q Q' : Bool → Prop), (∀ r, Q r → Q' r) → c en Q → c en Q') (hb : ∀ en (D D' : Dn), D.Le D' → b en D → b en D') {D D' : Dn} (h : D.Le D') :
    ∀ (n : Nat) (en : En), whileW c b D n en → whileW c b D' n en
  | 0, en, w => w
  | n + 1, en, w => hc en _ _ (fun r q => ite_mono (fun q => hb en { nx := whileW c b D n, ct := whileW c b D n, bk := D.nx, rt := D.rt } _ ⟨whileW_mono hc hb h n, h.rt, h.nx, whileW_mono hc hb h n⟩ q) (fun q => h.nx _ q) q) w
theorem forW_mono {f : PyData → En → Dn → Prop} (hf : ∀ d en (D D' : Dn), D.Le D' → f d en D → f d en D') :
    ∀ (ds : List PyData) (en : En) {D D' : Dn}, D.Le D' → forW f ds en D → forW f ds en D'
  | [], en, D, D', h, w => h.nx _ w
  | d :: ds, en, D, D', h, w => hf d en { nx := fun en' => forW f ds en' D, ct := fun en' => forW f ds en' D, bk := D.nx, rt := D.rt } _ ⟨fun en' q => forW_mono hf ds en' h q, h.rt, h.nx, fun en' q => forW_mono hf ds en' h q⟩ w
mutual
theorem wS_mono (hF : ∀ j, MonoS (F j)) : ∀ (s : S) (en : En) (D D' : Dn), D.Le D' → wS F C s en D → wS F C s en D'
  | .set fz own i e, en, D, D', h, w => by
    rw [wS] at w ⊢
    exact wE_mono hF e _ _ _ (fun d t q => ⟨q.1, h.nx _ q.2⟩) w
  | .unp fz is e, en, D, D', h, w => by
    rw [wS] at w ⊢
    exact wE_mono hF e _ _ _ (fun d t q => tgW_mono h.nx q) w
  | .par is es, en, D, D', h, w => by
    rw [wS] at w ⊢
    exact wEs_mono hF es _ _ _ (fun ps q => ⟨q.1, q.2.1, h.nx _ q.2.2⟩) w
  | .app i e, en, D, D', h, w => by
    rw [wS] at w ⊢
    exact ownW_mono (fun ds w => wE_mono hF e _ _ _ (fun d t q => ⟨q.1, q.2.1, h.nx _ q.2.2⟩) w) w
  | .ext i e, en, D, D', h, w => by
    rw [wS] at w ⊢
    exact ownW_mono (fun ds w => wE_mono hF e _ _ _ (fun d t q => by cases d <;> first | exact ⟨q.1, h.nx _ q.2⟩ | exact q.elim) w) w
  | .ins i a e, en, D, D', h, w => by
    rw [wS] at w ⊢
    exact ownW_mono (fun ds w => wE_mono hF a _ _ _ (fun x _ q => wE_mono hF e _ _ _ (fun d t q => ⟨q.1, q.2.1, insW_mono (fun j q => h.nx _ q) q.2.2⟩) q) w) w
  | .seti i a e, en, D, D', h, w => by
    rw [wS] at w ⊢
    exact ownW_mono (fun ds w => wE_mono hF e _ _ _ (fun d t q => wE_mono hF a _ _ _ (fun x _ q => ⟨q.1, setiW_mono (fun j q => h.nx _ q) q.2⟩) q) w) w
  | .pop tg i, en, D, D', h, w => by
    rw [wS] at w ⊢
    exact ownW_mono (fun ds q => let ⟨d, e, q⟩ := q; ⟨d, e, tgW_mono h.nx q⟩) w
  | .ifs c a b, en, D, D', h, w => by
    rw [wS] at w ⊢
    exact wE_mono hF c _ _ _ (fun d t q => boolW_mono (fun r q => ite_mono (fun q => wSs_mono hF a _ _ _ h q) (fun q => wSs_mono hF b _ _ _ h q) q) q) w
  | .whl c b, en, D, D', h, w => by
    rw [wS] at w ⊢
    obtain ⟨n, w⟩ := w
    exact ⟨n, whileW_mono (c := fun en Q => wE F C c en fun d _ => boolW d Q) (b := wSs F C b) (fun en Q Q' hq q => wE_mono hF c en _ _ (fun d t q => boolW_mono hq q) q) (fun en D D' hD q => wSs_mono hF b en _ _ hD q) h n en w⟩
  | .for_ fz tg it b, en, D, D', h, w => by
    rw [wS] at w ⊢
    exact wIt_mono hF it _ _ _ (fun ds t q => ⟨q.1, forW_mono (f := fun d en' D' => tgW tg d en' fun en'' => wSs F C b en'' D') (fun d en D D' hD q => tgW_mono (fun en' q => wSs_mono hF b en' _ _ hD q) q) ds _ h q.2⟩) w
  | .ret e, en, D, D', h, w => by
    rw [wS] at w ⊢
    exact wE_mono hF e _ _ _ (fun d t q => ⟨q.1, h.rt _ q.2⟩) w
  | .retn, en, D, D', h, w => by rw [wS] at w ⊢; exact h.rt _ w
  | .drop e, en, D, D', h, w => by
    rw [wS] at w ⊢
    exact wE_mono hF e _ _ _ (fun d t q => h.nx _ q) w
  | .brk, en, D, D', h, w => by rw [wS] at w ⊢; exact h.bk _ w
  | .cont, en, D, D', h, w => by rw [wS] at w ⊢; exact h.ct _ w
  | .pass, en, D, D', h, w => by rw [wS] at w ⊢; exact h.nx _ w
  | .nev, en, D, D', h, w => by rw [wS] at w; exact w.elim
theorem wSs_mono (hF : ∀ j, MonoS (F j)) : ∀ (s : Ss) (en : En) (D D' : Dn), D.Le D' → wSs F C s en D → wSs F C s en D'
  | .nil, en, D, D', h, w => by rw [wSs] at w ⊢; exact h.nx _ w
  | .cons s ss, en, D, D', h, w => by
    rw [wSs] at w ⊢
    exact wS_mono hF s en { D with nx := fun en' => wSs F C ss en' D } _ ⟨fun en' q => wSs_mono hF ss en' _ _ h q, h.rt, h.bk, h.ct⟩ w
end
end
end Mi

set_option Elab.async false
set_option linter.all false
set_option maxRecDepth 100000
set_option maxHeartbeats 4000000
/-! Expressions of the mini language are sound: what wE asks is enough for the machine. -/
namespace Mi
open PySem PySem.Spec PyProof.Rows L2

abbrev MW (w : En → (PyData → Tg → Prop) → Prop) : Prop := ∀ en (Q Q' : PyData → Tg → Prop), (∀ d t, Q d t → Q' d t) → w en Q → w en Q'
abbrev MWs (w : En → (List (PyData × Tg) → Prop) → Prop) : Prop := ∀ en (Q Q' : List (PyData × Tg) → Prop), (∀ ps, Q ps → Q' ps) → w en Q → w en Q'
def tW (K : PySem.W.Frag) (w : En → (PyData → Tg → Prop) → Prop) : TE := fun σ H Q => ∃ G0 H0 en G, Rel K G0 H0 en G H σ ∧ w en fun d t => ∀ v G' H', Ext G H G' H' → VOk K H G' H' d t v → Q v H'
def tWs (K : PySem.W.Frag) (w : En → (List (PyData × Tg) → Prop) → Prop) : TA := fun σ H Q => ∃ G0 H0 en G, Rel K G0 H0 en G H σ ∧ w en fun ps => ∀ vs G' H', Ext G H G' H' → VOks K H G' H' ps vs → Q vs H'
def tT (K : PySem.W.Frag) (w : En → (PyData → Tg → Prop) → Prop) : TT := fun σ H Q => ∃ G0 H0 en G, Rel K G0 H0 en G H σ ∧ w en fun d _ => boolW d fun b => ∀ G' H', Ext G H G' H' → Q b H'
theorem _root_.L2.PE.weak {X : Cx} {e : Expr} {t t' : TE} (h : PE X e t) (w : ∀ σ H Q, t' σ H Q → t σ H Q) : PE X e t' := ⟨fun pins s σ H Q I q => h.run pins s σ H Q I (w σ H Q q)⟩
theorem _root_.L2.PT.weak {X : Cx} {e : Expr} {t t' : TT} (h : PT X e t) (w : ∀ σ H Q, t' σ H Q → t σ H Q) : PT X e t' := ⟨fun pins s σ H Q I q => h.run pins s σ H Q I (w σ H Q q)⟩
theorem _root_.L2.PW.weak {X : Cx} {e : Expr} {t t' : TT} (h : PW X e t) (w : ∀ σ H Q, t' σ H Q → t σ H Q) : PW X e t' := ⟨fun wh pins s σ H Q I q => h.run wh pins s σ H Q I (w σ H Q q)⟩
theorem _root_.L2.PA.weak {X : Cx} {e : List Expr} {t t' : TA} (h : PA X e t) (w : ∀ σ H Q, t' σ H Q → t σ H Q) : PA X e t' := ⟨fun pos pins s σ H Q I q => h.run pos pins s σ H Q I (w σ H Q q)⟩

section
variable {K : PySem.W.Frag} {G0 H0 G H Hs : Hp} {en : En} {σ : L2.St}
theorem tW_of {w : En → (PyData → Tg → Prop) → Prop} {P : PyData → Tg → Prop} {R : V → Hp → Prop} (m : MW w) (r : Rel K G0 H0 en G H σ) (h : w en P)
    (k : ∀ d t v G' H', P d t → Ext G H G' H' → VOk K H G' H' d t v → R v H') : tW K w σ H R :=
  ⟨G0, H0, en, G, r, m _ _ _ (fun d t p v G' H' e o => k d t v G' H' p e o) h⟩
theorem tWs_of {w : En → (List (PyData × Tg) → Prop) → Prop} {P : List (PyData × Tg) → Prop} {R : List V → Hp → Prop} (m : MWs w) (r : Rel K G0 H0 en G H σ) (h : w en P)
    (k : ∀ ps vs G' H', P ps → Ext G H G' H' → VOks K H G' H' ps vs → R vs H') : tWs K w σ H R :=
  ⟨G0, H0, en, G, r, m _ _ _ (fun ps p vs G' H' e o => k ps vs G' H' p e o) h⟩
theorem tT_of {w : En → (PyData → Tg → Prop) → Prop} {P : Bool → Prop} {R : Bool → Hp → Prop} (m : MW w) (r : Rel K G0 H0 en G H σ) (h : w en fun d _ => boolW d P)
    (k : ∀ b G' H', P b → Ext G H G' H' → R b H') : tT K w σ H R :=
  ⟨G0, H0, en, G, r, m _ _ _ (fun d t p => boolW_mono (fun b q G' H' e => k b G' H' q e) p) h⟩

/-! ### reading a value -/
theorem VOk.int {i : Int} {t : Tg} {v : V} (h : VOk K Hs G H (.int i) t v) (s : Same G H) : v = .int i := by cases h.rp s; rfl
theorem VOk.bool {b : Bool} {t : Tg} {v : V} (h : VOk K Hs G H (.bool b) t v) (s : Same G H) : v = .bl b := by cases h.rp s; rfl
theorem VOk.non {t : Tg} {v : V} (h : VOk K Hs G H .none t v) (s : Same G H) : v = .non := by cases h.rp s; rfl
theorem VOk.str {x : Str} {t : Tg} {v : V} (h : VOk K Hs G H (.str x) t v) (s : Same G H) : v = .str x := by cases h.rp s; rfl
theorem VOk.lst {ds : List PyData} {t : Tg} {v : V} (h : VOk K Hs G H (.list ds) t v) (s : Same G H) : ∃ a xs, v = .ref a ∧ H a = some (.lst xs) ∧ RpAll K G xs ds := by
  cases t with
  | fz => cases (show Rp K G v (.list ds) from h) with | lst h1 h2 => exact ⟨_, _, rfl, s _ _ h1, h2⟩
  | bo => obtain ⟨l, xs, es, rfl, e, h1, h2⟩ := h; cases e; exact ⟨_, _, rfl, h1, h2.mono off_sub⟩
  | fr => obtain ⟨l, ⟨xs, es, rfl, e, h1, h2⟩, _⟩ := h; cases e; exact ⟨_, _, rfl, h1, h2.mono off_sub⟩
theorem VOk.tup {ds : List PyData} {t : Tg} {v : V} (h : VOk K Hs G H (.tuple ds) t v) : ∃ a xs, v = .ref a ∧ SqT K G a xs ∧ RpAll K G xs ds := by
  cases t with
  | fz => cases (show Rp K G v (.tuple ds) from h) with | tup h1 h2 => exact ⟨_, _, rfl, h1, h2⟩
  | bo => obtain ⟨l, xs, es, rfl, e, h1, h2⟩ := h; cases e
  | fr => obtain ⟨l, ⟨xs, es, rfl, e, h1, h2⟩, _⟩ := h; cases e
theorem VOk.of {d : PyData} {v : V} (h : Rp K G v d) : VOk K Hs G H d .fz v := h
/-- a new loose list -/
theorem VOk.new {l : Addr} {xs : List V} {ds : List PyData} (hl : H l = some (.lst xs)) (hg : G l = none) (hs : Hs l = none) (h : RpAll K G xs ds) : VOk K Hs G H (.list ds) .fr (.ref l) :=
  ⟨l, ⟨xs, ds, rfl, rfl, hl, h.mono (off_of (.refl G) hg)⟩, hs⟩
theorem size_le {n : Nat} (h : n ≤ LIM) : n ≤ sizeLine := Nat.le_trans h (by decide)
theorem size_lt {n : Nat} (h : n < LIM) : n < sizeLine := Nat.lt_of_lt_of_le h (by decide)
end

/-! ### equality -/
mutual
theorem Rp.dp {K : PySem.W.Frag} {H : Hp} : ∀ {d : PyData} {v : V}, PyData.canLay0 d = true → Rp K H v d → Dp K H v d
  | .none, _, _, h => by cases h; exact .non
  | .bool b, _, _, h => by cases h; exact .bl b
  | .int i, _, _, h => by cases h; exact .int i
  | .str x, _, _, h => by cases h; exact .str x
  | .list ds, _, c, h => by
    cases h with
    | lst h1 h2 => exact .lst (SqL.of h1) (RpAll.dp (by simpa [PyData.canLay0] using c) h2)
  | .tuple ds, _, c, h => by
    cases h with
    | tup h1 h2 => exact .tup h1 (RpAll.dp (by simpa [PyData.canLay0] using c) h2)
  | .dict kvs, _, c, h => by simp [PyData.canLay0] at c
theorem RpAll.dp {K : PySem.W.Frag} {H : Hp} : ∀ {ds : List PyData} {vs : List V}, PyData.canLayAll0 ds = true → RpAll K H vs ds → DpAll K H vs ds
  | [], _, _, h => by cases h; exact .nil
  | d :: ds, _, c, h => by
    have c' : PyData.canLay0 d = true ∧ PyData.canLayAll0 ds = true := by simpa [PyData.canLayAll0] using c
    cases h with
    | cons h1 h2 => exact .cons (Rp.dp c'.1 h1) (RpAll.dp c'.2 h2)
end

/-! ### operators -/
section
variable {X : Cx}
theorem mulOk.ok {i j : Int} (h : mulOk i j) : IntMulOk i j := by
  have b : ∀ x : Int, Builtin.Int.intBits x ≤ x.natAbs.log2 + 1 := fun x => by
    unfold Builtin.Int.intBits
    split <;> omega
  have h1 := b i
  have h2 := b j
  have h3 : i.natAbs.log2 + j.natAbs.log2 < 100000000 := h
  have e : bitsLine = 134217728 := by decide
  unfold IntMulOk
  intro z
  rw [Bool.and_eq_true] at z
  have z2 := z.2
  unfold Builtin.Int.intTooBig at z2
  have z3 := of_decide_eq_true z2
  rw [e] at z3
  omega
theorem fdivOk.ok {i j : Int} (h : fdivOk i j) : Builtin.divisionGoesByPylong i j = false := by
  rcases h.2 with h2 | h2
  · exact PyProof.noPylong_of_log2 h2
  · have hj : ¬ (j == 0) = true := by simpa using h.1
    unfold Builtin.Int.intBits at h2
    rw [if_neg hj] at h2
    show (decide ((if j == 0 then 0 else j.natAbs.log2 / 30 + 1) > 300) && decide ((if i == 0 then 0 else i.natAbs.log2 / 30 + 1) > (if j == 0 then 0 else j.natAbs.log2 / 30 + 1) + 150)) = false
    rw [if_neg hj]
    have k : ¬ ((if i == 0 then 0 else i.natAbs.log2 / 30 + 1) > j.natAbs.log2 / 30 + 1 + 150) := by
      split at h2
      · rename_i z
        rw [if_pos z]
        omega
      · rename_i z
        rw [if_neg z]
        omega
    rw [decide_eq_false k, Bool.and_false]
theorem op_mulM : OpR X (binaryOp .Mult) (rI mulOk fun i j => .int (i * j)) := opI fun _ _ _ _ _ _ _ hc q => mul_int q hc.ok
theorem op_fdivM : OpR X (binaryOp .FloorDiv) (rI fdivOk fun i j => .int (i.fdiv j)) := opI fun i j _ _ _ _ _ hc q => floordiv_int hc.1 q (.inl hc.ok)

/-- what an operator wants of the machine -/
def opOf : BOp → Operator
  | .add => .Add | .sub => .Sub | .mul => .Mult | .fdiv => .FloorDiv | .mod => .Mod | .pow => .Pow | .shl => .LShift | .shr => .RShift | .band => .BitAnd | .bor => .BitOr
def rB (K : PySem.W.Frag) : BOp → R2
  | .add => fun x y H Q => (rI0 (fun i j => .int (i + j)) x y H Q ∨ rCat x y H Q) ∨ rCatA K x y H Q
  | .sub => rI0 fun i j => .int (i - j)
  | .mul => fun x y H Q => (rI mulOk (fun i j => .int (i * j)) x y H Q ∨ rRep x y H Q) ∨ rRepT K x y H Q
  | .fdiv => rI fdivOk fun i j => .int (i.fdiv j)
  | .mod => rI (fun _ j => j ≠ 0) fun i j => .int (i.fmod j)
  | .pow => rI CPow fun i j => .int (i ^ j.toNat)
  | .shl => rI CPow fun i j => .int (i * 2 ^ j.toNat)
  | .shr => rI (fun _ j => 0 ≤ j) fun i j => .int (i / 2 ^ j.toNat)
  | .band => rI0 fun i j => .int (Builtin.bitAnd i j)
  | .bor => rI0 fun i j => .int (Builtin.bitOr i j)
theorem rB_ok (op : BOp) : OpR X (binaryOp (opOf op)) (rB X.K op) := by
  cases op with
  | add => exact (op_add.or op_cat).or op_catA
  | sub => exact op_sub
  | mul => exact (op_mulM.or op_rep).or op_repT
  | fdiv => exact op_fdivM
  | mod => exact op_modN
  | pow => exact op_pow
  | shl => exact op_shl
  | shr => exact op_shr
  | band => exact op_and
  | bor => exact op_or
end
section
variable {K : PySem.W.Frag} {G H Hs : Hp} {a b : PyData} {t u : Tg} {v w : V} {Q : VK}
theorem binW_sound {op : BOp} (s : Same G H) (nl : ∀ a o, H a = some o → NL o → G a = some o) (ha : VOk K Hs G H a t v) (hb : VOk K Hs G H b u w)
    (h : binW op a b fun d t => ∀ v G' H', Ext G H G' H' → VOk K H G' H' d t v → Q v H') : rB K op v w H Q := by
  have E := Ext.refl s nl
  unfold binW at h
  split at h
  · cases ha.int s; cases hb.int s; exact .inl (.inl ⟨_, _, rfl, rfl, h _ _ _ E (Rp.int _)⟩)
  · obtain ⟨l, xs, rfl, h1, h2⟩ := ha.lst s
    obtain ⟨m, ys, rfl, h3, h4⟩ := hb.lst s
    obtain ⟨z, q⟩ := h
    rw [← h2.length, ← h4.length] at z
    exact .inl (.inr ⟨_, _, _, _, rfl, rfl, h1, h3, size_le z, fun p hp => q _ _ _ (E.loose hp) (.new upd_same (s.free hp) hp (h2.append h4))⟩)
  · obtain ⟨l, xs, rfl, h1, h2⟩ := ha.tup
    obtain ⟨m, ys, rfl, h3, h4⟩ := hb.tup
    obtain ⟨z, q⟩ := h
    rw [← h2.length, ← h4.length] at z
    refine .inr ⟨_, _, _, _, rfl, rfl, same_sqT s h1, same_sqT s h3, size_le z, fun e => ?_, fun _ e => ?_, fun e1 e2 p hp => ?_⟩
    · subst e
      cases h2
      exact q _ _ _ E (show Rp K G _ _ from .tup h3 h4)
    · subst e
      cases h4
      rw [List.append_nil] at q
      exact q _ _ _ E (show Rp K G _ _ from .tup h1 h2)
    · refine q _ _ _ (E.new hp) (show Rp K _ _ _ from .tup (SqT.of upd_same) ((h2.append h4).mono ?_))
      exact fun b o e => by rw [upd_ne (ne_of_none e (s.free hp))]; exact e
  · cases ha.int s; cases hb.int s; exact ⟨_, _, rfl, rfl, h _ _ _ E (Rp.int _)⟩
  · cases ha.int s; cases hb.int s; exact .inl (.inl ⟨_, _, rfl, rfl, h.1, h.2 _ _ _ E (Rp.int _)⟩)
  · obtain ⟨l, xs, rfl, h1, h2⟩ := ha.lst s
    cases hb.int s
    obtain ⟨z1, z2, z3, q⟩ := h
    rw [← h2.length] at z3
    refine .inl (.inr ⟨_, _, _, rfl, rfl, h1, by omega, by omega, ?_, fun p hp => q _ _ _ (E.loose hp) (.new upd_same (s.free hp) hp (h2.replicate _))⟩)
    have : xs.length * (Int.toNat ‹Int›) ≤ 1000 * 1000 := Nat.mul_le_mul z3 (by omega)
    exact Nat.le_trans this (by decide)
  · obtain ⟨l, xs, rfl, h1, h2⟩ := ha.tup
    cases hb.int s
    obtain ⟨z0, z1, z2, z3, q⟩ := h
    rw [← h2.length] at z3
    refine .inr ⟨_, _, _, rfl, rfl, same_sqT s h1, fun e => z0 ?_, z1, z2, z3, fun p hp => ?_⟩
    · subst e; cases h2; rfl
    · refine q _ _ _ (E.new hp) (show Rp K _ _ _ from .tup (SqT.of upd_same) ((h2.replicate _).mono ?_))
      exact fun b o e => by rw [upd_ne (ne_of_none e (s.free hp))]; exact e
  · cases ha.int s; cases hb.int s; exact ⟨_, _, rfl, rfl, h.1, h.2 _ _ _ E (Rp.int _)⟩
  · cases ha.int s; cases hb.int s; exact ⟨_, _, rfl, rfl, h.1, h.2 _ _ _ E (Rp.int _)⟩
  · cases ha.int s; cases hb.int s; exact ⟨_, _, rfl, rfl, h.1, h.2 _ _ _ E (Rp.int _)⟩
  · cases ha.int s; cases hb.int s; exact ⟨_, _, rfl, rfl, h.1, h.2 _ _ _ E (Rp.int _)⟩
  · cases ha.int s; cases hb.int s; exact ⟨_, _, rfl, rfl, h.1, h.2 _ _ _ E (Rp.int _)⟩
  · cases ha.int s; cases hb.int s; exact ⟨_, _, rfl, rfl, h _ _ _ E (Rp.int _)⟩
  · cases ha.int s; cases hb.int s; exact ⟨_, _, rfl, rfl, h _ _ _ E (Rp.int _)⟩
  · exact h.elim
end
end Mi

set_option Elab.async false
set_option linter.all false
set_option maxRecDepth 100000
set_option maxHeartbeats 4000000
/-! repr, isinstance. -/
namespace Mi
open PySem PySem.Spec PyProof.Rows L2

/-! ### repr -/
mutual
theorem dp_nodict {K : PySem.W.Frag} {H : Hp} : ∀ (d : PyData) (v : V), Dp K H v d → d.hasDict = false
  | .none, _, _ => by simp [PyData.hasDict]
  | .bool _, _, _ => by simp [PyData.hasDict]
  | .int _, _, _ => by simp [PyData.hasDict]
  | .str _, _, _ => by simp [PyData.hasDict]
  | .list ds, _, h => by
    cases h with
    | lst h1 h2 => simpa [PyData.hasDict] using dpAll_nodict ds _ h2
  | .tuple ds, _, h => by
    cases h with
    | tup h1 h2 => simpa [PyData.hasDict] using dpAll_nodict ds _ h2
  | .dict kvs, _, h => by cases h
theorem dpAll_nodict {K : PySem.W.Frag} {H : Hp} : ∀ (ds : List PyData) (vs : List V), DpAll K H vs ds → PyData.hasDictAll ds = false
  | [], _, _ => by simp [PyData.hasDictAll]
  | d :: ds, _, h => by
    cases h with
    | cons h1 h2 => simp [PyData.hasDictAll, dp_nodict d _ h1, dpAll_nodict ds _ h2]
end
theorem call_repr {X : Cx} (hA : X.A.guards = some []) (hu : X.A.units + 65 < cLine) : CallR X (.builtin "repr") (fun xs H Q => ∃ x d, xs = [x] ∧ Dp X.K H x d ∧ reprOk d ∧ Q (.str d.shown) H) := by
  intro pins s σ H xs us Q I r h
  obtain ⟨x, d, rfl, hd, ⟨h0, h1, h2, h3⟩, q⟩ := h
  obtain ⟨u, rfl, rx⟩ := vals1 r
  have stay : ∀ (tk : Nat) (h' : Heap), (∀ b o, s.heap.get? b = some o → h'.get? b = some o) → Inv X pins σ H { s with heap := h', toks := tk } := fun tk h' k => I.kept k
  have ref : ∀ {a : Addr}, x = .ref a → wpAny (model X.prog X.w) X.A (call (.builtin "repr") [u]) (EP X pins σ Q) X.xe s := fun {a} e => by
    subst e
    cases rx
    obtain ⟨as, rd⟩ := Dp.reads I d _ _ hd rfl
    refine repr_of_reads' rd h1 (fun z => ?_) hA (by omega) (fun b o e => e) (fun h' u tk k => ⟨.str d.shown, H, stay tk h' k, ⟨u, rfl⟩, q⟩) h2
    rw [dp_nodict d _ hd] at z
    cases z
  cases hd with
  | non => cases rx; exact PySem.P.repr_of_none ⟨.str _, H, I.tok _, ⟨_, rfl⟩, q⟩
  | bl b => cases rx; exact PySem.P.repr_of_bool ⟨.str _, H, I.tok _, ⟨_, rfl⟩, by simpa [PyData.shown] using q⟩
  | int i => obtain ⟨t, rfl⟩ := rx; exact PySem.P.repr_of_int (by simpa [PyData.showable] using h1) ⟨.str _, H, I.tok _, ⟨_, rfl⟩, by simpa [PyData.shown] using q⟩
  | str z => obtain ⟨t, rfl⟩ := rx; exact PySem.P.repr_of_str ⟨.str _, H, I.tok _, ⟨_, rfl⟩, by simpa [PyData.shown] using q⟩ (by simpa [PyData.shown] using h2)
  | lst => exact ref rfl
  | tup => exact ref rfl

/-! ### isinstance -/
def tyN : Ty → String
  | .int => "int" | .bool => "bool" | .str => "str" | .tuple => "tuple" | .list => "list"
def tyV (t : Ty) : Value := .type (tyN t)
theorem kit_is {K : PySem.W.Frag} (t : Ty) : (PySem.W.kitOne K (.type "int") (tyV t) = some (isD t (.int 0))) ∧ (PySem.W.kitOne K (.type "bool") (tyV t) = some (isD t (.bool true))) ∧ (PySem.W.kitOne K (.type "str") (tyV t) = some (isD t (.str ""))) ∧
    (PySem.W.kitOne K (.type "tuple") (tyV t) = some (isD t (.tuple []))) ∧ (PySem.W.kitOne K (.type "list") (tyV t) = some (isD t (.list []))) ∧ (PySem.W.kitOne K (.type "NoneType") (tyV t) = some (isD t .none)) := by
  cases t <;> exact ⟨kit_ty (by decide +kernel), kit_ty (by decide +kernel), kit_ty (by decide +kernel), kit_ty (by decide +kernel), kit_ty (by decide +kernel), kit_ty (by decide +kernel)⟩
theorem sqT_ty {K : PySem.W.Frag} {H : Hp} {a : Addr} {xs : List V} (h : SqT K H a xs) : TyX K H (.ref a) (.type "tuple") := by
  rcases h with (h | ⟨o, h⟩) | ⟨o, its, n, h, c, _⟩
  · exact .base (.tup h)
  · exact .fTuple h
  · exact .kTuple h c
theorem isi_ty {K : PySem.W.Frag} {Hs G H : Hp} {d : PyData} {t : Tg} {v : V} {ty : Ty} {R : Bool → Prop} (s : Same G H) (ha : VOk K Hs G H d t v) (h : isW ty d R) : ∃ u b, TyX K H v u ∧ PySem.W.kitOne K u (tyV ty) = some b ∧ R b := by
  obtain ⟨k1, k2, k3, k4, k5, k6⟩ := kit_is (K := K) ty
  cases d with
  | int i => cases ha.int s; exact ⟨_, _, .base (.int i), k1, h⟩
  | bool i => cases ha.bool s; exact ⟨_, _, .base (.bl i), k2, h⟩
  | none => cases ha.non s; exact ⟨_, _, .base .non, k6, h⟩
  | str i => cases ha.str s; exact ⟨_, _, .base (.str i), k3, h⟩
  | list ds =>
    obtain ⟨a, xs, rfl, h1, _⟩ := ha.lst s
    exact ⟨_, _, .base (.lst h1), k5, h⟩
  | tuple ds =>
    obtain ⟨a, xs, rfl, h1, _⟩ := ha.tup
    exact ⟨_, _, sqT_ty (same_sqT s h1), k4, h⟩
  | dict kvs => exact h.elim
end Mi

set_option Elab.async false
set_option linter.all false
set_option maxRecDepth 100000
set_option maxHeartbeats 4000000
/-! More of the same: comparisons, subscripts, built-ins, calls. -/
namespace Mi
open PySem PySem.Spec PyProof.Rows L2

def cOf : COp → CmpOp
  | .lt => .Lt | .le => .LtE | .gt => .Gt | .ge => .GtE | .eq => .Eq | .ne => .NotEq | .is => .Is | .isnot => .IsNot | .isin => .In | .notin => .NotIn
def rIsN : R2 := fun x y H Q => y = .non ∧ Q (.bl (decide (x = .non))) H
def rNotN : R2 := fun x y H Q => y = .non ∧ Q (.bl (!decide (x = .non))) H
def rC (K : PySem.W.Frag) : COp → R2
  | .lt => rI0 fun i j => .bl (decide (i < j))
  | .le => rI0 fun i j => .bl (decide (i ≤ j))
  | .gt => rI0 fun i j => .bl (decide (j < i))
  | .ge => rI0 fun i j => .bl (decide (j ≤ i))
  | .eq => rEqD K
  | .ne => rNeD K
  | .is => fun x y H Q => rIsN x y H Q ∨ rIsB x y H Q
  | .isnot => fun x y H Q => rNotN x y H Q ∨ rNotB x y H Q
  | .isin => rInD K
  | .notin => rNotInD K
section
variable {X : Cx}
theorem rC_ok (hu : X.A.units + 65 < cLine) (op : COp) : OpR X (compareOp (cOf op)) (rC X.K op) := by
  cases op with
  | lt => exact op_lt
  | le => exact op_le
  | gt => exact op_gt
  | ge => exact op_ge
  | eq => exact op_eqD (by omega)
  | ne => exact op_neD (by omega)
  | is => exact OpR.or op_isN op_isBl
  | isnot => exact OpR.or op_notN op_notBl
  | isin => exact op_inD hu
  | notin => exact op_notInD hu
end
section
variable {K : PySem.W.Frag} {G H Hs : Hp} {a b c : PyData} {t u : Tg} {v w x : V} {Q : VK}
theorem canLay_of {d : PyData} (h : okD d) : d.canLay0 = true := SeqAt.canLay_of_shaped h
theorem VOk.dp (h : VOk K Hs G H a t v) (s : Same G H) (o : okD a) : Dp K H v a := Rp.dp (canLay_of o) (h.rp s)
theorem isNone_ok (h : Rp K H v a) : decide (v = .non) = isNone a := by
  cases h <;> simp [isNone]
theorem cmpW_sound {op : COp} {R : Bool → Prop} (s : Same G H) (ha : VOk K Hs G H a t v) (hb : VOk K Hs G H b u w)
    (h : cmpW op a b R) (k : ∀ r, R r → Q (.bl r) H) : rC K op v w H Q := by
  unfold cmpW at h
  split at h
  · cases ha.int s; cases hb.int s; exact ⟨_, _, rfl, rfl, k _ h⟩
  · cases ha.int s; cases hb.int s; exact ⟨_, _, rfl, rfl, k _ h⟩
  · cases ha.int s; cases hb.int s; exact ⟨_, _, rfl, rfl, k _ h⟩
  · cases ha.int s; cases hb.int s; exact ⟨_, _, rfl, rfl, k _ h⟩
  · exact ⟨_, _, ha.dp s h.1, hb.dp s h.2.1, h.1, h.2.1, k _ h.2.2⟩
  · exact ⟨_, _, ha.dp s h.1, hb.dp s h.2.1, h.1, h.2.1, k _ h.2.2⟩
  · exact .inl ⟨hb.non s, by rw [isNone_ok (ha.rp s)]; exact k _ h⟩
  · exact .inl ⟨hb.non s, by rw [isNone_ok (ha.rp s)]; exact k _ h⟩
  · exact .inr ⟨_, _, ha.bool s, hb.bool s, k _ h⟩
  · exact .inr ⟨_, _, ha.bool s, hb.bool s, k _ h⟩
  · exact ⟨_, _, ha.dp s h.1, hb.dp s h.2.1, h.1, h.2.1, k _ h.2.2⟩
  · exact ⟨_, _, ha.dp s h.1, hb.dp s h.2.1, h.1, h.2.1, k _ h.2.2⟩
  · exact h.elim
theorem negW_sound {R : PyData → Prop} (s : Same G H) (ha : VOk K Hs G H a t v) (h : negW a R) (k : ∀ r v, R r → Rp K G v r → Q v H) : rU (fun i => .int (-i)) v H Q := by
  unfold negW at h
  split at h
  · cases ha.int s; exact ⟨_, rfl, k _ _ h (Rp.int _)⟩
  · exact h.elim
theorem idxW_sound {R : PyData → Prop} (s : Same G H) (ha : VOk K Hs G H a t v) (hb : VOk K Hs G H b u w) (h : idxW a b R) (k : ∀ r v, R r → Rp K G v r → Q v H) : rIxL K v w H Q ∨ rIxT K v w H Q := by
  have at_ : ∀ {xs : List V} {ds : List PyData} {i : Int} {d : PyData}, RpAll K G xs ds → atD ds i = some d → ∃ x, atI xs i = some x ∧ Rp K G x d := fun {xs ds i d} r e => by
    unfold atD at e
    unfold atI
    rw [r.length]
    cases q : ixN ds.length i with
    | none => rw [q] at e; cases e
    | some j =>
      rw [q] at e
      exact r.get e
  unfold idxW at h
  split at h
  · obtain ⟨l, xs, rfl, h1, h2⟩ := ha.lst s
    cases hb.int s
    obtain ⟨d, e, q⟩ := h
    obtain ⟨x, e', r⟩ := at_ h2 e
    exact .inl ⟨_, _, _, _, rfl, rfl, SqL.of h1, e', k _ _ q r⟩
  · obtain ⟨l, xs, rfl, h1, h2⟩ := ha.tup
    cases hb.int s
    obtain ⟨d, e, q⟩ := h
    obtain ⟨x, e', r⟩ := at_ h2 e
    exact .inr ⟨_, _, _, _, rfl, rfl, same_sqT s h1, e', k _ _ q r⟩
  · exact h.elim
theorem cut_rp {xs : List V} {ds : List PyData} {lo hi : Option Int} (r : RpAll K G xs ds) : RpAll K G (cutV xs lo hi) (cutD ds lo hi) := by
  unfold cutV cutD
  rw [r.length]
  exact (r.drop _).take _
theorem slcW_sound {lo hi : Option Int} {Qf : PyData → Tg → Prop} (s : Same G H) (nl : ∀ a o, H a = some o → NL o → G a = some o) (ha : VOk K Hs G H a t v) (h : slcW a lo hi Qf)
    (k : ∀ d t v G' H', Qf d t → Ext G H G' H' → VOk K H G' H' d t v → Q v H') : rSlL K v lo hi H Q ∨ rSlA K v lo hi H Q := by
  have E := Ext.refl s nl
  unfold slcW at h
  split at h
  · obtain ⟨l, xs, rfl, h1, h2⟩ := ha.lst s
    exact .inl ⟨_, _, rfl, SqL.of h1, fun p hp => k _ _ _ _ _ h (E.loose hp) (.new upd_same (s.free hp) hp (cut_rp h2))⟩
  · obtain ⟨l, xs, rfl, h1, h2⟩ := ha.tup
    refine .inr ⟨_, _, rfl, same_sqT s h1, fun z => ?_, fun z p hp => ?_⟩
    · refine k _ _ _ _ _ h E (show Rp K G _ _ from .tup h1 ?_)
      have e : cutV xs lo hi = xs := by
        unfold cutV
        rw [z.1, z.2]
        simp
      have c := cut_rp (lo := lo) (hi := hi) h2
      rw [e] at c
      exact c
    · refine k _ _ _ _ _ h (E.new hp) (show Rp K _ _ _ from .tup (SqT.of upd_same) ((cut_rp h2).mono ?_))
      exact fun b o e => by rw [upd_ne (ne_of_none e (s.free hp))]; exact e
  · have r := ha.rp s
    cases r with
    | scr h1 => exact .inl ⟨_, _, rfl, h1, fun p hp => k _ _ _ _ _ h (E.loose hp) (.new upd_same (s.free hp) hp (cut_rp (RpAll.ints _)))⟩
  · exact h.elim
theorem revW_sound {Qf : PyData → Tg → Prop} (s : Same G H) (nl : ∀ a o, H a = some o → NL o → G a = some o) (ha : VOk K Hs G H a t v) (h : revW a Qf)
    (k : ∀ d t v G' H', Qf d t → Ext G H G' H' → VOk K H G' H' d t v → Q v H') : ∃ l xs, v = .ref l ∧ SqL K H l xs ∧ ∀ p, H p = none → Q (.ref p) (upd H p (.lst xs.reverse)) := by
  have E := Ext.refl s nl
  unfold revW at h
  split at h
  · obtain ⟨l, xs, rfl, h1, h2⟩ := ha.lst s
    exact ⟨_, _, rfl, SqL.of h1, fun p hp => k _ _ _ _ _ h (E.loose hp) (.new upd_same (s.free hp) hp h2.reverse)⟩
  · exact h.elim
end

/-! ### built-ins -/
inductive BiK where
  | fn (id : String) | ty (T : String)
def biV : Bi → Value
  | .len => .builtin "len" | .abs => .builtin "abs" | .int => .type "int" | .max => .builtin "max" | .min => .builtin "min" | .sum => .builtin "sum"
  | .tuple => .type "tuple" | .list => .type "list" | .repr => .builtin "repr"
/-- what a built-in wants of the machine -/
def rBi (K : PySem.W.Frag) : Bi → List V → Hp → VK → Prop
  | .len => fun xs H Q => ∃ p ys, xs = [.ref p] ∧ (SqL K H p ys ∨ SqT K H p ys) ∧ Q (.int ys.length) H
  | .abs => fun xs H Q => ∃ i, xs = [.int i] ∧ Q (.int (if i < 0 then -i else i)) H
  | .int => fun xs H Q => (∃ i, xs = [.int i] ∧ Q (.int i) H) ∨ ∃ k, xs = [.bl k] ∧ Q (.int (if k then 1 else 0)) H
  | .max => fun xs H Q => (∃ i j, xs = [.int i, .int j] ∧ Q (.int (if j > i then j else i)) H) ∨ rNuC3 nuMax3 xs H Q
  | .min => fun xs H Q => ∃ i j, xs = [.int i, .int j] ∧ Q (.int (if j < i then j else i)) H
  | .sum => rSum K
  | .tuple => fun xs H Q => ∃ p ys, xs = [.ref p] ∧ ((SqL K H p ys ∧ ∀ l, H l = none → Q (.ref l) (upd H l (.tup ys))) ∨ (SqT K H p ys ∧ Q (.ref p) H))
  | .list => fun xs H Q => ∃ p ys, xs = [.ref p] ∧ (SqL K H p ys ∨ SqT K H p ys) ∧ ∀ l, H l = none → Q (.ref l) (upd H l (.lst ys))
  | .repr => fun xs H Q => ∃ x d, xs = [x] ∧ Dp K H x d ∧ reprOk d ∧ Q (.str d.shown) H
section
variable {X : Cx}
theorem rBi_ok (hc : X.calm = true) (hA : X.A.guards = some []) (hu : X.A.units + 65 < cLine) (b : Bi) : CallR X (biV b) (rBi X.K b) := by
  cases b with
  | len => exact call_len_seq
  | abs => exact call_abs
  | int => exact call_int1
  | max => exact (call_max2 hc).or (call_max3Nu hc)
  | min => exact call_min2 hc
  | sum => exact cr_sum hc
  | tuple => exact call_tuple_of
  | list => exact call_list_of
  | repr => exact call_repr hA hu
end
section
variable {K : PySem.W.Frag} {G H Hs : Hp} {Q : VK}
theorem VOks.nil_inv {vs : List V} (h : VOks K Hs G H [] vs) : vs = [] := by cases h; rfl
theorem VOks.cons_inv {d t ps} {vs : List V} (h : VOks K Hs G H ((d, t) :: ps) vs) : ∃ v ws, vs = v :: ws ∧ VOk K Hs G H d t v ∧ VOks K Hs G H ps ws := by
  cases h with
  | cons a b => exact ⟨_, _, rfl, a, b⟩
theorem map_fst_nil {α β : Type} {ps : List (α × β)} (h : ps.map (·.1) = []) : ps = [] := List.map_eq_nil_iff.mp h
theorem map_fst_cons {α β : Type} {ps : List (α × β)} {a : α} {as : List α} (h : ps.map (·.1) = a :: as) : ∃ b qs, ps = (a, b) :: qs ∧ qs.map (·.1) = as := by
  cases ps with
  | nil => cases h
  | cons p qs =>
    obtain ⟨x, b⟩ := p
    rw [List.map_cons] at h
    injection h with h1 h2
    cases h1
    exact ⟨b, qs, rfl, h2⟩
theorem nuMax2_int (i j : Int) : nuMax2 (.int i) (.int j) = some (.int (max2 i j)) := by
  show some (if decide (i < j) = true then V.int j else V.int i) = some (.int (if j > i then j else i))
  by_cases h : i < j
  · rw [if_pos (decide_eq_true h), if_pos h]
  · rw [if_neg (by simpa using h), if_neg h]
theorem nuMax3_int (i j m : Int) : nuMax3 (.int i) (.int j) (.int m) = some (.int (max2 (max2 i j) m)) := by
  show (nuMax2 (.int i) (.int j)).bind (fun x => nuMax2 x (.int m)) = _
  rw [nuMax2_int]
  exact nuMax2_int _ _
theorem biW_sound {b : Bi} {ps : List (PyData × Tg)} {vs : List V} {Qf : PyData → Tg → Prop} (s : Same G H) (nl : ∀ a o, H a = some o → NL o → G a = some o) (ha : VOks K Hs G H ps vs) (h : biW b (ps.map (·.1)) Qf)
    (k : ∀ d t v G' H', Qf d t → Ext G H G' H' → VOk K H G' H' d t v → Q v H') : rBi K b vs H Q := by
  have E := Ext.refl s nl
  have one : ∀ {d : PyData}, ps.map (·.1) = [d] → ∃ t v, vs = [v] ∧ VOk K Hs G H d t v := fun {d} e => by
    obtain ⟨t, qs, rfl, e2⟩ := map_fst_cons e
    cases map_fst_nil e2
    obtain ⟨v, ws, rfl, o, r⟩ := ha.cons_inv
    cases r.nil_inv
    exact ⟨t, v, rfl, o⟩
  have two : ∀ {d e : PyData}, ps.map (·.1) = [d, e] → ∃ t u v w, vs = [v, w] ∧ VOk K Hs G H d t v ∧ VOk K Hs G H e u w := fun {d e} z => by
    obtain ⟨t, qs, rfl, e2⟩ := map_fst_cons z
    obtain ⟨u, qs2, rfl, e3⟩ := map_fst_cons e2
    cases map_fst_nil e3
    obtain ⟨v, ws, rfl, o, r⟩ := ha.cons_inv
    obtain ⟨w, ws, rfl, o2, r2⟩ := r.cons_inv
    cases r2.nil_inv
    exact ⟨t, u, v, w, rfl, o, o2⟩
  have three : ∀ {d e f : PyData}, ps.map (·.1) = [d, e, f] → ∃ t u y v w x, vs = [v, w, x] ∧ VOk K Hs G H d t v ∧ VOk K Hs G H e u w ∧ VOk K Hs G H f y x := fun {d e f} z => by
    obtain ⟨t, qs, rfl, e2⟩ := map_fst_cons z
    obtain ⟨u, qs2, rfl, e3⟩ := map_fst_cons e2
    obtain ⟨y, qs3, rfl, e4⟩ := map_fst_cons e3
    cases map_fst_nil e4
    obtain ⟨v, ws, rfl, o, r⟩ := ha.cons_inv
    obtain ⟨w, ws, rfl, o2, r2⟩ := r.cons_inv
    obtain ⟨x, ws, rfl, o3, r3⟩ := r2.cons_inv
    cases r3.nil_inv
    exact ⟨t, u, y, v, w, x, rfl, o, o2, o3⟩
  generalize hq : ps.map (·.1) = ds at h
  unfold biW at h
  split at h
  · obtain ⟨t, v, rfl, o⟩ := one hq
    obtain ⟨l, xs, rfl, h1, h2⟩ := o.lst s
    exact ⟨_, _, rfl, .inl (SqL.of h1), by rw [h2.length]; exact k _ _ _ _ _ h E (Rp.int _)⟩
  · obtain ⟨t, v, rfl, o⟩ := one hq
    obtain ⟨l, xs, rfl, h1, h2⟩ := o.tup
    exact ⟨_, _, rfl, .inr (same_sqT s h1), by rw [h2.length]; exact k _ _ _ _ _ h E (Rp.int _)⟩
  · obtain ⟨t, v, rfl, o⟩ := one hq
    cases o.int s
    exact ⟨_, rfl, k _ _ _ _ _ h E (Rp.int _)⟩
  · obtain ⟨t, v, rfl, o⟩ := one hq
    cases o.int s
    exact .inl ⟨_, rfl, k _ _ _ _ _ h E (Rp.int _)⟩
  · obtain ⟨t, v, rfl, o⟩ := one hq
    cases o.bool s
    exact .inr ⟨_, rfl, k _ _ _ _ _ h E (Rp.int _)⟩
  · obtain ⟨t, u, v, w, rfl, o, o2⟩ := two hq
    cases o.int s; cases o2.int s
    exact .inl ⟨_, _, rfl, k _ _ _ _ _ h E (Rp.int _)⟩
  · obtain ⟨t, u, y, v, w, x, rfl, o, o2, o3⟩ := three hq
    cases o.int s; cases o2.int s; cases o3.int s
    rename_i i j m
    refine .inr ⟨_, _, _, .int (max2 (max2 i j) m), rfl, nuMax3_int i j m, k _ _ _ _ _ h E (Rp.int _)⟩
  · obtain ⟨t, u, v, w, rfl, o, o2⟩ := two hq
    cases o.int s; cases o2.int s
    exact ⟨_, _, rfl, k _ _ _ _ _ h E (Rp.int _)⟩
  · obtain ⟨t, v, rfl, o⟩ := one hq
    obtain ⟨ns, rfl, q⟩ := h
    obtain ⟨l, xs, rfl, h1, h2⟩ := o.lst s
    cases h2.of_ints
    exact ⟨_, _, rfl, SqL.of h1, k _ _ _ _ _ q E (Rp.int _)⟩
  · obtain ⟨t, v, rfl, o⟩ := one hq
    obtain ⟨l, xs, rfl, h1, h2⟩ := o.lst s
    refine ⟨_, _, rfl, .inl ⟨SqL.of h1, fun p hp => k _ _ _ _ _ h (E.new hp) (show Rp K _ _ _ from .tup (SqT.of upd_same) (h2.mono ?_))⟩⟩
    exact fun b o e => by rw [upd_ne (ne_of_none e (s.free hp))]; exact e
  · obtain ⟨t, v, rfl, o⟩ := one hq
    obtain ⟨l, xs, rfl, h1, h2⟩ := o.tup
    exact ⟨_, _, rfl, .inr ⟨same_sqT s h1, k _ _ _ _ _ h E (show Rp K _ _ _ from .tup h1 h2)⟩⟩
  · obtain ⟨t, v, rfl, o⟩ := one hq
    obtain ⟨l, xs, rfl, h1, h2⟩ := o.lst s
    exact ⟨_, _, rfl, .inl (SqL.of h1), fun p hp => k _ _ _ _ _ h (E.loose hp) (.new upd_same (s.free hp) hp h2)⟩
  · obtain ⟨t, v, rfl, o⟩ := one hq
    obtain ⟨l, xs, rfl, h1, h2⟩ := o.tup
    exact ⟨_, _, rfl, .inr (same_sqT s h1), fun p hp => k _ _ _ _ _ h (E.loose hp) (.new upd_same (s.free hp) hp h2)⟩
  · obtain ⟨t, v, rfl, o⟩ := one hq
    exact ⟨_, _, rfl, o.dp s h.1.1, h.1, k _ _ _ _ _ h.2 E (Rp.str _)⟩
  · exact h.elim
end

/-! ### a def's promise over data, and its call -/
def spS (K : PySem.W.Frag) (n : Nat) (φ : Spc) : Sp := fun vs H Q _ => vs.length = n ∧ ∃ G ds, Same G H ∧ (∀ a o, H a = some o → NL o → G a = some o) ∧ RpAll K G vs ds ∧ φ ds fun d => ∀ v G' H', Ext G H G' H' → Rp K G' v d → Q v H'
def mrg (G1 H1 G' : Hp) : Hp := fun a => match H1 a with
  | none => G' a
  | some _ => G1 a
section
variable {K : PySem.W.Frag} {G1 H1 G' H' Gc : Hp}
theorem mrg_new {a : Addr} (h : H1 a = none) : mrg G1 H1 G' a = G' a := by unfold mrg; rw [h]
theorem mrg_old {a : Addr} {o : HO} (h : H1 a = some o) : mrg G1 H1 G' a = G1 a := by unfold mrg; rw [h]
theorem mrg_ext (s : Same G1 H1) (nl : ∀ a o, H1 a = some o → NL o → G1 a = some o) (e : Ext Gc H1 G' H') : Ext G1 H1 (mrg G1 H1 G') H' where
  sg := fun a o h => by rw [mrg_old (s a o h)]; exact h
  sh := e.sh
  sub := fun a o h => by
    cases q : H1 a with
    | none => rw [mrg_new q] at h; exact e.sub a o h
    | some u => rw [mrg_old q] at h; exact e.sh _ _ (s a o h)
  old := fun a o h => mrg_old h
  nl := fun a o h n => by
    cases q : H1 a with
    | none => rw [mrg_new q]; exact e.nl a o h n
    | some u =>
      have := e.sh a u q
      rw [h] at this
      cases this
      rw [mrg_old q]; exact nl a o q n
def nlOf (H : Hp) : Hp := fun a => match H a with
  | some (.lst _) => none
  | o => o
theorem nlOf_some {H : Hp} {a : Addr} {o : HO} (h : H a = some o) (n : NL o) : nlOf H a = some o := by
  unfold nlOf
  rw [h]
  cases o <;> first | rfl | exact absurd rfl (n _)
theorem nlOf_sub {H : Hp} : Same (nlOf H) H := fun a o h => by
  unfold nlOf at h
  split at h
  · cases h
  · exact h
theorem nlOf_nl {H : Hp} {a : Addr} {o : HO} (h : nlOf H a = some o) : NL o := fun xs e => by
  subst e
  have h2 := nlOf_sub a _ h
  unfold nlOf at h
  rw [h2] at h
  cases h
theorem callW_sound {φ : Spc} {up : Bool} {ps : List (PyData × Tg)} {vs : List V} {n : Nat} {G H : Hp} {Q : VK} {E : XK} {Qf : PyData → Tg → Prop} (mφ : MonoS φ) (hn : vs.length = n) (e0 : Ext G H G1 H1) (ha : VOks K H G1 H1 ps vs)
    (h : φ (ps.map (·.1)) fun d => callW up ps d Qf) (k : ∀ d t v G' H', Qf d t → Ext G H G' H' → VOk K H G' H' d t v → Q v H') : spS K n φ vs H1 Q E := by
  refine ⟨hn, ?_⟩
  by_cases hup : up = true
  · subst hup
    by_cases hf : flats (ps.map (·.1)) = true
    · refine ⟨nlOf H1, _, nlOf_sub, fun a o h n => nlOf_some h n, RpAll.flats (fun a o h n => nlOf_some h n) hf (ha.rp e0.sub), mφ _ _ _ (fun d q v G' H' e r => ?_) h⟩
      unfold callW at q
      rw [if_pos rfl] at q
      obtain ⟨_, q2, q3⟩ := q
      have em := mrg_ext e0.sub e0.nl e
      refine k _ _ _ _ _ q3 (e0.trans em) ?_
      cases r with
      | lst h1 h2 =>
        rename_i l xs ds
        have hl : H1 l = none := by
          cases q : H1 l with
          | none => rfl
          | some o =>
            have z := e.old l o q
            rw [h1] at z
            exact absurd rfl (nlOf_nl z.symm xs)
        refine ⟨l, ⟨xs, ds, rfl, rfl, e.sub _ _ h1, ?_⟩, e0.sh.free hl⟩
        refine RpAll.flats (fun a o h n => ?_) (by simpa [flatL] using q2) h2
        have hal : a ≠ l := fun z => by subst z; rw [h1] at h; cases h; exact n _ rfl
        rw [off_ne hal]
        cases q : H1 a with
        | none => rw [mrg_new q]; exact h
        | some u =>
          have z := e.old a u q
          rw [h] at z
          have z2 := nlOf_sub a o z.symm
          rw [mrg_old q]
          exact e0.nl a o z2 n
      | _ => simp [flatL] at q2
    · have : φ (ps.map (·.1)) fun _ => False := mφ _ _ _ (fun d q => by
        unfold callW at q
        rw [if_pos rfl] at q
        exact absurd q.1 hf) h
      exact ⟨H1, _, .refl _, fun a o h _ => h, ha.rp e0.sub, mφ _ _ _ (fun d q => q.elim) this⟩
  · by_cases hb : anyBo ps = true
    · refine ⟨H1, _, .refl _, fun a o h _ => h, ha.rp e0.sub, mφ _ _ _ (fun d q v G' H' e r => ?_) h⟩
      unfold callW at q
      rw [if_neg hup, if_pos hb] at q
      have em := mrg_ext e0.sub e0.nl e
      refine k _ _ _ _ _ q.2 (e0.trans em) (show Rp K _ _ _ from Rp.flat (fun a o h n => ?_) q.1 r)
      cases q : H1 a with
      | none => rw [mrg_new q]; exact h
      | some u =>
        have z := e.old a u q
        rw [h] at z
        rw [mrg_old q]
        exact e0.nl a o z.symm n
    · have hall : (ps.all fun p => decide (p.2 ≠ .bo)) = true := by
        unfold anyBo at hb
        rw [List.all_eq_true]
        intro p hp
        rw [decide_eq_true_eq]
        intro z
        exact hb (List.any_eq_true.mpr ⟨p, hp, decide_eq_true z⟩)
      obtain ⟨G2, e2, s2, r2⟩ := ha.freeze e0 hall
      refine ⟨G2, _, e2.sub, e2.nl, r2, mφ _ _ _ (fun d q v G' H' e r => ?_) h⟩
      unfold callW at q
      rw [if_neg hup, if_neg hb] at q
      exact k _ _ _ _ _ q (e2.trans e) r
end
end Mi

set_option Elab.async false
set_option linter.all false
set_option maxRecDepth 100000
set_option maxHeartbeats 4000000
/-! Defs that are called where no text is under way (guards): their promise, their call; the law's own call. -/
namespace Mi
open PySem PySem.Spec PyProof.Rows L2

/-- a def keeps its promise wherever no repr is under way -/
structure FnG (P : Program) (w : World) (K : PySem.W.Frag) (mg : Str → Option Value) (base : Heap) (k : Nat) (f : Addr) (fd : FuncData) (ps : List Str) (sp : Sp) : Prop where
  few : ∀ vs H Q E, sp vs H Q E → vs.length = ps.length
  go : ∀ (A : Around) (outer : List Env) (s : Shared) (H : Hp) (ar : Args) (us : List Value) (vs : List V) (Q : VK) (E : XK), A.guards = some [] → Room k A → Env0 P w K mg base A outer s H →
    BindsTo s fd ar (ps.zip us) → Vals vs us → sp vs H Q E → codeAny (model P w) A (.call (.ref f) ar) (CR CX0 outer P w H s Q E) s
theorem FnG.mono {P : Program} {w : World} {K : PySem.W.Frag} {mg : Str → Option Value} {base : Heap} {j k : Nat} {f : Addr} {fd : FuncData} {ps : List Str} {sp : Sp} (F : FnG P w K mg base j f fd ps sp) (h : j ≤ k) : FnG P w K mg base k f fd ps sp :=
  ⟨F.few, fun A o s H ar us vs Q E g r => F.go A o s H ar us vs Q E g (r.mono h)⟩
theorem FnG.imp {P : Program} {w : World} {K : PySem.W.Frag} {mg : Str → Option Value} {base : Heap} {k : Nat} {f : Addr} {fd : FuncData} {ps : List Str} {sp sp' : Sp} (F : FnG P w K mg base k f fd ps sp) (h : ∀ vs H Q E, sp' vs H Q E → sp vs H Q E) : FnG P w K mg base k f fd ps sp' :=
  ⟨fun vs H Q E q => F.few vs H Q E (h _ _ _ _ q), fun A o s H ar us vs Q E g r e b v q => F.go A o s H ar us vs Q E g r e b v (h _ _ _ _ q)⟩
/-- by its body -/
theorem fnG_body {P : Program} {w : World} {K : PySem.W.Frag} {mg : Str → Option Value} {base : Heap} {k : Nat} {x qual : Str} {st : Stmt} {f : Addr} {fd : FuncData} {N ps : List Str} {sp : Sp} (F : Fun K x qual st f fd) (S : FnScope N ps (defScope st)) (few : ∀ vs H Q E, sp vs H Q E → vs.length = ps.length)
    (body : ∀ (cdv : Value) (A : Around) (outer : List Env) (s : Shared) (H : Hp) (vs : List V) (Q : VK) (E : XK), (A.deeper (envOfC qual (defScope st) s.heap.objs.size f cdv)).guards = some [] → Room k (A.deeper (envOfC qual (defScope st) s.heap.objs.size f cdv)) → sp vs H Q E →
      ∃ t, PSs (cxOf CX0 P w K mg base N qual (defScope st) f cdv A outer s H E).nox (defBody st) t ∧ t { nx := fun _ H' => Q .non H', rt := Q } (start N vs) H) : FnG P w K mg base (k + 1) f fd ps sp := by
  obtain ⟨oc, od, kV, doc, pm, an, cdv, ct, osl, rfl, lk, hcd⟩ := F.ex
  refine ⟨few, fun A outer s H ar us vs Q E hg hr e0 hb hv hs => ?_⟩
  have Kin : K.In s.heap := e0.mod.kin.keeps fun b o e => (e0.bs b o e).1
  have Lim : s.heap.NoLimit := e0.mod.nolimit.keeps fun b o e => (e0.bs b o e).1
  have kinds : ((ps.zip us).all fun y => (defScope st).names.lookup y.1 == some .local || (defScope st).names.lookup y.1 == some .cell) = true := by
    rw [List.all_eq_true]
    intro y hy
    rcases S.par y.1 (List.of_mem_zip hy).1 with q | q <;> rw [q] <;> rfl
  refine Att.call_fn Kin Lim lk hcd hr.depth hb kinds (fun s1 x1 => ?_) S.co S.gen S.kind
  obtain ⟨t, ht, hq⟩ := body cdv A outer s H vs Q E hg (hr.deeper _) hs
  have inv := inv_start (CX := CX0) (E := E) S hr.hd e0 (few _ _ _ _ hs) hv x1
  refine wpAny_mono (ht.nox.run [] s1 _ H _ inv hq) (fun fl s2 q2 => ?_) fun e s2 q2 => q2
  cases fl with
  | ret u => obtain ⟨v, _, H2, J, rv, q⟩ := q2; exact ⟨v, H2, J.os, J.bare, J.base, J.hok, rv, q⟩
  | next => obtain ⟨_, H2, J, q⟩ := q2; exact ⟨.non, H2, J.os, J.bare, J.base, J.hok, rfl, q⟩
  | brk => obtain ⟨_, _, _, q⟩ := q2; exact (q : False).elim
  | cont => obtain ⟨_, _, _, q⟩ := q2; exact (q : False).elim
/-- its call -/
theorem callG {X : Cx} {k : Nat} {f : Addr} {fd : FuncData} {ps : List Str} {sp : Sp} {x : Str} {p pos : Pos} {e : Expr} {es : List Expr} {t : TA} (F : FnG X.prog X.w X.K X.mg X.base k f fd ps sp) (hA : X.A.guards = some []) (hr : Room k X.A) (hg : Gl X x) (hm : X.mg x = some (.ref f)) (hk : PySem.W.keepIn X.K (.ref f) = true) (hb : Binds X.K fd ps [])
    (ha : PA X (e :: es) t) (hdb : (x == ("__debug__" : Str)) = false) (h1 : starEach (e :: es) X.env = (false, eval e X.env) :: starEach es X.env) (h2 : (backTo pos (starEach es X.env)).any (·.1) = false) :
    PE X (.Call (.Name x p) (e :: es) [] pos) (fun σ H Q => t σ H fun vs H1 => sp vs H1 Q E0) := ⟨fun pins s σ H Q I h => by
  refine wpAny_Call_Name_kw (ld_glob I hg hm ?_ hdb)
  refine PySem.W.callWith_K (h₀ := X.base) I.ok.mod.kin hk (thn (ha.run pos pins s σ H _ I h) fun us s1 q1 => ?_) h1 h2
  obtain ⟨vs, H1, I1, rv, q⟩ := q1
  refine ⟨I1.kIn, ?_⟩
  have n1 := F.few _ _ _ _ q
  have n2 : (us ++ []).length = ps.length := by rw [List.append_nil, ← rv.length]; exact n1
  have bd := hb s1 us I1.kIn n2
  rw [List.append_nil] at bd
  show wpAny _ _ (call (.ref f) us) _ _ s1
  refine wpAny_call (codeAny_mono (F.go X.A X.stack s1 H1 ⟨us, []⟩ us vs Q E0 hA hr I1.env0 bd rv q) fun r s2 z => ?_)
  match r, z with
  | .ok (.ret u), z => exact I1.after z⟩
/-- the law's call -/
theorem law_go {P : Program} {w : World} {K : PySem.W.Frag} {mg mb : Str → Option Value} {k : Nat} {fa a : Addr} {fd : FuncData} {x : Str} {sp : Sp} {s1 : Shared} {vs : List Value} {ns : List Int}
    (KX : K.In s1.heap) (hns : s1.heap.Ns mainGlobals mg) (hb : s1.heap.Ns builtinsNs mb) (hbb : ∀ x : Str, x ≠ "__name__" → mb x = bootBuiltins x) (hlim : s1.heap.NoLimit) (hg : s1.gens = #[])
    (ha : s1.heap.get? a = some { cls := .type "list", data := .seq vs.toArray }) (hi : IntsAre vs ns) (hl : ns.length ≤ sizeLine) (hr : Room k callerA)
    (F : ∀ base : Heap, K.In base → base.Ns mainGlobals mg → FnG P w K mg base k fa fd [x] sp) (hbind : ∀ (s : Shared) (u : Value), BindsTo s fd ⟨[u], []⟩ [(x, u)])
    (hsp : ∀ H : Hp, SqL K H a (ns.map V.int) → sp [.ref a] H (fun v _ => v = .bl true) fun _ _ _ => False) :
    codeAny (model P w) callerA (.call (.ref fa) ⟨[.ref a], []⟩) (fun r s' => r = .ok (.ret (.bool true)) ∧ OldK s1.heap s'.heap ∧ s'.os = s1.os ∧ AllBare s'.gens) s1 := by
  have rv := vals_ints hi
  -- the one tracked object, if any, is the script
  have key : ∀ H : Hp, (∀ b u, H b = some u → b = a ∧ K.lookup a = none ∧ ∃ o zs, u = .frz o (.lst zs)) → SqL K H a (ns.map V.int) → HOk P w H s1.heap →
      codeAny (model P w) callerA (.call (.ref fa) ⟨[.ref a], []⟩) (fun r s' => r = .ok (.ret (.bool true)) ∧ OldK s1.heap s'.heap ∧ s'.os = s1.os ∧ AllBare s'.gens) s1 := by
    intro H one hS hok
    have off : ∀ {b : Addr} {o : Obj} {es : Array DictEntry} {ep : Nat}, s1.heap.get? b = some o → o.data = .dict es ep → H b = none := fun {b o es ep} e d => by
      cases q : H b with
      | none => rfl
      | some u =>
        obtain ⟨rfl, _⟩ := one b u q
        rw [ha] at e
        cases e
        cases (show Data.seq vs.toArray _ = Data.dict es ep from d)
    have kb : K.In (hidT s1.heap H) := fun b o e => hidT_get (KX b o e) (by
      cases q : H b with
      | none => rfl
      | some u =>
        obtain ⟨rfl, z, _⟩ := one b u q
        rw [z] at e
        cases e)
    have nk : ∀ {b : Addr} {m : Str → Option Value}, s1.heap.Ns b m → (hidT s1.heap H).Ns b m := fun {b m} ⟨o, es, ep, e, d, r⟩ => ⟨o, es, ep, hidT_get e (off e d), d, r⟩
    have md : Mod K mg (hidT s1.heap H) := ⟨kb, nk hns, ⟨mb, nk hb, hbb⟩, let ⟨mc, z1, z2⟩ := hlim; ⟨mc, nk z1, z2⟩⟩
    have e0 : Env0 P w K mg (hidT s1.heap H) callerA [] s1 H := ⟨rfl, md, fun b o e => of_hidT e, Nat.le_of_eq (hidT_size _ _), trivial, (fun b hb => absurd (show b ∈ ([] : List Addr) from hb) (by simp)), hok, .of_eq hg⟩
    refine codeAny_mono ((F _ kb (nk hns)).go callerA [] s1 H ⟨[.ref a], []⟩ [.ref a] [.ref a] _ _ rfl hr e0 (hbind s1 (.ref a)) (.cons rfl .nil) (hsp H hS)) fun r s' z => ?_
    match r, z with
    | .ok (.ret u), z =>
      obtain ⟨v, H', os, bare, un, hok', r', q⟩ := z
      obtain rfl : v = .bl true := q
      obtain rfl : u = Value.bool true := r'
      refine ⟨rfl, OldK.of_keep fun b o e => ?_, os, bare⟩
      cases q : H b with
      | none => exact un.keep b o e q (fun z => absurd (show b ∈ ([] : List Addr) from z) (by simp)) (by simp)
      | some u =>
        obtain ⟨rfl, _, ob, zs, rfl⟩ := one b u q
        obtain ⟨e1, _⟩ := hok _ _ q
        obtain ⟨e2, _⟩ := hok' _ _ (un.frzs _ _ _ q)
        rw [e] at e1
        cases e1
        exact e2
  cases hk : K.lookup a with
  | some o =>
    have e := KX a o hk
    rw [ha] at e
    cases e
    exact key (fun _ => none) (fun b u z => by cases z) (.inr ⟨_, vs.toArray, _, hk, rfl, rfl, rfl, by rw [List.size_toArray, hi.length]; exact hl, by simpa using rv⟩) fun b u z => by cases (show (none : Option HO) = some u from z)
  | none =>
    have at_ : ∀ b u, (if b = a then some (HO.frz { cls := .type "list", data := .seq vs.toArray } (.lst (ns.map V.int))) else none) = some u → b = a ∧ u = .frz { cls := .type "list", data := .seq vs.toArray } (.lst (ns.map V.int)) := fun b u z => by
      by_cases c : b = a
      · rw [if_pos c] at z; cases z; exact ⟨c, rfl⟩
      · rw [if_neg c] at z; cases z
    refine key (fun b => if b = a then some (.frz { cls := .type "list", data := .seq vs.toArray } (.lst (ns.map V.int))) else none) (fun b u z => ?_) (.inl (.inr ⟨{ cls := .type "list", data := .seq vs.toArray }, if_pos rfl⟩)) fun b u z => ?_
    · obtain ⟨h1, h2⟩ := at_ b u z
      exact ⟨h1, hk, _, _, h2⟩
    · obtain ⟨rfl, rfl⟩ := at_ b u z
      exact ⟨ha, by rw [List.length_map]; exact hl, vs, _, rv, ha⟩
/-- what k_head leaves, from the law's promise -/
theorem walk_go {l : PySem.W.OpenLaw} {n k : Nat} {q : Program} {loose : List Str} {XP : (Str → Option Value) → Heap → Prop} {YP : World → Heap → Prop} {d : DefRec} {K : Params → PySem.W.Frag} {sp : PySem.W.Frag → Sp} {x : Str}
    (hn : l.most = some n) (hn2 : n ≤ sizeLine) (hdf : d.params.defaults = []) (hr : Room k callerA) (hY : ∀ (w : World) (h : Heap), YP w h → (K w.params).In h)
    (F : ∀ (w : World) (mg : Str → Option Value) (fa : Addr) (h : Heap), (K w.params).In h → h.Ns mainGlobals mg → mg d.name = some (.ref fa) →
      ∃ fd : FuncData, (∀ (s : Shared) (u : Value), BindsTo s fd ⟨[u], []⟩ [(x, u)]) ∧ ∀ base : Heap, (K w.params).In base → base.Ns mainGlobals mg → FnG l.prog w (K w.params) mg base k fa fd [x] (sp (K w.params)))
    (hsp : ∀ (K : PySem.W.Frag) (H : Hp) (a : Addr) (ns : List Int), ns.length ≤ n → SqL K H a (ns.map V.int) → sp K [.ref a] H (fun v _ => v = .bl true) fun _ _ _ => False) :
    PySem.W.WalkO q loose XP YP l.row.toRowW d [] (fun f vs => PySem.call f vs) := by
  refine Att.attach_call hn hdf fun w s₀ s₁ mg mb fa o pm cd doc a vs ns G Y ho hd hcd hmg hobj hints hlen hg => ?_
  obtain ⟨fd, b1, F1⟩ := F w mg fa _ (hY w _ Y) G.T.g hmg
  exact law_go (hY w _ Y) G.T.g G.T.b G.T.builtins G.T.nolimit hg hobj hints (Nat.le_trans hlen hn2) hr F1 b1 fun H hS => hsp _ H a ns hlen hS
end Mi

set_option Elab.async false
set_option linter.all false
set_option maxRecDepth 100000
set_option maxHeartbeats 4000000
/-! The rules: what stands for an expression of the text. -/
namespace Mi
open PySem PySem.Spec PyProof.Rows L2

/-- the place where a text stands -/
structure Cok (X : Cx) (N : List Str) (sc : Scope) (fn : List (Str × Nat)) (cn : List Str) (F : Nat → Spc) (C : Nat → PyData) (k : Nat) : Prop where
  calm : X.calm = true
  nd : X.N.Nodup
  eN : X.N = N
  esc : X.env.scope = sc
  mF : ∀ j, MonoS (F j)
  fns : ∀ (j : Nat) (x : Str) (n : Nat), fn[j]? = some (x, n) → ∃ f fd ps, X.mg x = some (.ref f) ∧ PySem.W.keepIn X.K (.ref f) = true ∧ Binds X.K fd ps [] ∧ FnG X.prog X.w X.K X.mg X.base k f fd ps (spS X.K n (F j))
  cns : ∀ (j : Nat) (x : Str), cn[j]? = some x → ∃ v u, X.mg x = some u ∧ RelV v u ∧ ∀ G, Rp X.K G v (C j)
  bl : ∀ x : Str, x ∈ (["len", "abs", "int", "max", "min", "sum", "tuple", "list", "repr", "isinstance", "range", "reversed", "sorted", "set", "str", "bool"] : List Str) → X.mg x = none
  room : Room k X.A
  grd : X.A.guards = some []

section
variable {X : Cx} {N : List Str} {sc : Scope} {fn : List (Str × Nat)} {cn : List Str} {F : Nat → Spc} {C : Nat → PyData} {k : Nat}
theorem Cok.hu (c : Cok X N sc fn cn F C k) : X.A.units + 65 < cLine := by have := c.room.un; omega

section
variable {a b e : Expr} {wa wb wc : En → (PyData → Tg → Prop) → Prop} {pos : Pos}
theorem se_var {i : Nat} {x : Str} (hN : X.N[i]? = some x) (hv : Vis X.env.scope x) (hd : (x == ("__debug__" : Str)) = false) (hcd : (x == ("__classdict__" : Str)) = false) : PE X (.Name x pos) (tW X.K (wE F C (.var i))) := by
  refine (pe_var hN hv hd hcd).weak fun σ H Q q => ?_
  obtain ⟨G0, H0, en, G, r, w⟩ := q
  rw [wE] at w
  split at w
  · rename_i s hs
    obtain ⟨v, e, o⟩ := r.slot i s hs
    refine ⟨v, e, w v G H r.self ?_⟩
    unfold SlotOk at o
    split at o
    · rename_i h
      rw [if_pos h]
      obtain ⟨l, xs, ds, e1, e2, e3, e4, e5, e6⟩ := o
      exact ⟨l, xs, ds, e1, e2, e3, e6.mono (off_of (.refl G) e4)⟩
    · rename_i h
      rw [if_neg h]
      exact o
  · exact w.elim
theorem se_con {d : PyData} {v : V} (h : PE X e (tC v)) (r : ∀ K G, Rp K G v d) : PE X e (tW X.K (wE F C (.con d))) := by
  refine h.weak fun σ H Q q => ?_
  obtain ⟨G0, H0, en, G, rl, w⟩ := q
  rw [wE] at w
  exact w v G H rl.self (r _ _)
theorem se_glb {j : Nat} {x : Str} (c : Cok X N sc fn cn F C k) (hj : cn[j]? = some x) (hg : Gl X x) (hd : (x == ("__debug__" : Str)) = false) : PE X (.Name x pos) (tW X.K (wE F C (.glb j))) := by
  obtain ⟨v, u, h1, h2, h3⟩ := c.cns j x hj
  refine (pe_glob hg h1 h2 hd).weak fun σ H Q q => ?_
  obtain ⟨G0, H0, en, G, rl, w⟩ := q
  rw [wE] at w
  exact w v G H rl.self (h3 _)
theorem se_neg {a' : E} (ma : MW (wE F C a')) (ha : PE X a (tW X.K (wE F C a'))) : PE X (.UnaryOp .USub a pos) (tW X.K (wE F C (.neg a'))) := by
  refine (pe_un un_neg ha).weak fun σ H Q q => ?_
  obtain ⟨G0, H0, en, G, r, w⟩ := q
  rw [wE] at w
  exact tW_of ma r w fun d t v G1 H1 p e o => negW_sound e.sub o p fun r v q o2 => q _ _ _ e o2
theorem se_bin {op : BOp} {a' b' : E} (ma : MW (wE F C a')) (mb : MW (wE F C b')) (ha : PE X a (tW X.K (wE F C a'))) (hb : PE X b (tW X.K (wE F C b'))) : PE X (.BinOp a (opOf op) b pos) (tW X.K (wE F C (.bin op a' b'))) := by
  refine (pe_op (rB_ok op) ha hb).weak fun σ H Q q => ?_
  obtain ⟨G0, H0, en, G, r, w⟩ := q
  rw [wE] at w
  exact tW_of ma r w fun d t v G1 H1 p e o => tW_of mb (r.step e) p fun d2 t2 v2 G2 H2 p2 e2 o2 =>
    binW_sound (Hs := H) e2.sub e2.nl (o.mono e2.sg e2.sh) (o2.start e.sh) (binW_mono (fun d t q v G' H' e3 o3 => q v G' H' ((e.trans e2).trans e3) (o3.start (e.trans e2).sh)) p2)
theorem se_cmp {op : COp} {a' b' : E} (c : Cok X N sc fn cn F C k) (hm : behindInMarks (cOf op) b = false) (ma : MW (wE F C a')) (mb : MW (wE F C b')) (ha : PE X a (tW X.K (wE F C a'))) (hb : PE X b (tW X.K (wE F C b'))) : PE X (.Compare a [cOf op] [b] pos) (tW X.K (wE F C (.cmp op a' b'))) := by
  refine (pe_cmpR (rC_ok c.hu op) ha hb hm).weak fun σ H Q q => ?_
  obtain ⟨G0, H0, en, G, r, w⟩ := q
  rw [wE] at w
  exact tW_of ma r w fun d t v G1 H1 p e o => tW_of mb (r.step e) p fun d2 t2 v2 G2 H2 p2 e2 o2 =>
    cmpW_sound (Hs := H) e2.sub (o.mono e2.sg e2.sh) (o2.start e.sh) p2 fun r q => q _ _ _ (e.trans e2) (Rp.bl r)
theorem st_cmp {op : COp} {a' b' : E} (c : Cok X N sc fn cn F C k) (hm : behindInMarks (cOf op) b = false) (ma : MW (wE F C a')) (mb : MW (wE F C b')) (ha : PE X a (tW X.K (wE F C a'))) (hb : PE X b (tW X.K (wE F C b'))) : PT X (.Compare a [cOf op] [b] pos) (tT X.K (wE F C (.cmp op a' b'))) := by
  refine (pt_cmpR (rC_ok c.hu op) ha hb hm).weak fun σ H Q q => ?_
  obtain ⟨G0, H0, en, G, r, w⟩ := q
  rw [wE] at w
  exact tW_of ma r w fun d t v G1 H1 p e o => tW_of mb (r.step e) p fun d2 t2 v2 G2 H2 p2 e2 o2 =>
    cmpW_sound (Hs := H) (Q := fun x H' => ∃ k, x = .bl k ∧ Q k H') e2.sub (o.mono e2.sg e2.sh) (o2.start e.sh) p2 fun r q => ⟨r, rfl, q _ _ (e.trans e2)⟩
theorem se_chain {o1 o2 : COp} {g : Expr} {a' b' g' : E} (c : Cok X N sc fn cn F C k) (hm : lastMarks [cOf o1, cOf o2] [b, g] = false) (ma : MW (wE F C a')) (mb : MW (wE F C b')) (mg : MW (wE F C g')) (ha : PE X a (tW X.K (wE F C a'))) (hb : PE X b (tW X.K (wE F C b'))) (hg : PE X g (tW X.K (wE F C g'))) :
    PE X (.Compare a [cOf o1, cOf o2] [b, g] pos) (tW X.K (wE F C (.chain o1 o2 a' b' g'))) := by
  refine (pe_chain (rC_ok c.hu o1) (rC_ok c.hu o2) ha hb hg hm).weak fun σ H Q q => ?_
  obtain ⟨G0, H0, en, G, r, w⟩ := q
  rw [wE] at w
  exact tW_of ma r w fun d t v G1 H1 p e o => tW_of mb (r.step e) p fun d2 t2 v2 G2 H2 p2 e2 o2 =>
    cmpW_sound (Hs := H) (Q := fun z H3 => ∃ k, z = .bl k ∧ (if k = true then _ else Q (.bl false) H3)) e2.sub (o.mono e2.sg e2.sh) (o2.start e.sh) p2 fun k q => ⟨k, rfl, by
      by_cases hk : k = true
      · rw [if_pos hk] at q ⊢
        exact tW_of mg ((r.step e).step e2) q fun d3 t3 v3 G3 H3 p3 e3 o3 =>
          cmpW_sound (Hs := H) e3.sub (o2.start e.sh |>.mono e3.sg e3.sh) (o3.start (e.trans e2).sh) p3 fun r q => q _ _ _ ((e.trans e2).trans e3) (Rp.bl r)
      · rw [if_neg hk] at q ⊢
        exact q _ _ _ (e.trans e2) (Rp.bl false)⟩
/-- a test by its value -/
theorem st_val {a' : E} (ha : PE X a (tW X.K (wE F C a'))) (he : ∀ whole, isTrue a X.env whole = (do let v ← whole; standAt a.pos; holding [v] (truthy v))) (ma : MW (wE F C a')) : PT X a (tT X.K (wE F C a')) := by
  refine (pt_val ha he).weak fun σ H Q q => ?_
  obtain ⟨G0, H0, en, G, r, w⟩ := q
  refine tW_of ma r w fun d t v G1 H1 p e o => ?_
  unfold boolW at p
  split at p
  · cases o.bool e.sub
    exact ⟨_, rfl, p _ _ e⟩
  · exact p.elim
theorem st_not {a' : E} (ma : MW (wE F C a')) (ha : PT X a (tT X.K (wE F C a'))) : PT X (.UnaryOp .Not a pos) (tT X.K (wE F C (.not a'))) := by
  refine (pt_not ha).weak fun σ H Q q => ?_
  obtain ⟨G0, H0, en, G, r, w⟩ := q
  rw [wE] at w
  exact tT_of ma r w fun b G' H' p e => p G' H' e
theorem se_not {a' : E} (ma : MW (wE F C a')) (ha : PE X a (tW X.K (wE F C a'))) : PE X (.UnaryOp .Not a pos) (tW X.K (wE F C (.not a'))) := by
  refine (pe_not ha).weak fun σ H Q q => ?_
  obtain ⟨G0, H0, en, G, r, w⟩ := q
  rw [wE] at w
  refine tW_of ma r w fun d t v G1 H1 p e o => ?_
  unfold boolW at p
  split at p
  · cases o.bool e.sub
    exact ⟨_, rfl, p _ _ _ e (Rp.bl _)⟩
  · exact p.elim
theorem st_and {rest : List Expr} {a' b' : E} (ma : MW (wE F C a')) (mb : MW (wE F C b')) (ha : PT X a (tT X.K (wE F C a'))) (hb : PW X (.BoolOp .And (b :: rest) pos) (tT X.K (wE F C b'))) : PW X (.BoolOp .And (a :: b :: rest) pos) (tT X.K (wE F C (.and a' b'))) := by
  refine (pw_and ha hb).weak fun σ H Q q => ?_
  obtain ⟨G0, H0, en, G, r, w⟩ := q
  rw [wE] at w
  have w' : wE F C a' en fun d _ => boolW d fun k => if k = true then wE F C b' en (fun d _ => boolW d fun b => ∀ G' H', Ext G H G' H' → Q b H') else ∀ G' H', Ext G H G' H' → Q false H' := w
  refine tT_of ma r w' fun k G1 H1 p e => ?_
  by_cases hk : k = true
  · rw [if_pos hk] at p ⊢
    exact tT_of mb (r.step e) p fun b G2 H2 q e2 => q G2 H2 (e.trans e2)
  · rw [if_neg hk] at p ⊢
    exact p _ _ e
theorem st_or {rest : List Expr} {a' b' : E} (ma : MW (wE F C a')) (mb : MW (wE F C b')) (ha : PT X a (tT X.K (wE F C a'))) (hb : PW X (.BoolOp .Or (b :: rest) pos) (tT X.K (wE F C b'))) : PW X (.BoolOp .Or (a :: b :: rest) pos) (tT X.K (wE F C (.or a' b'))) := by
  refine (pw_or ha hb).weak fun σ H Q q => ?_
  obtain ⟨G0, H0, en, G, r, w⟩ := q
  rw [wE] at w
  have w' : wE F C a' en fun d _ => boolW d fun k => if k = true then ∀ G' H', Ext G H G' H' → Q true H' else wE F C b' en (fun d _ => boolW d fun b => ∀ G' H', Ext G H G' H' → Q b H') := w
  refine tT_of ma r w' fun k G1 H1 p e => ?_
  by_cases hk : k = true
  · rw [if_pos hk] at p ⊢
    exact p _ _ e
  · rw [if_neg hk] at p ⊢
    exact tT_of mb (r.step e) p fun b G2 H2 q e2 => q G2 H2 (e.trans e2)
theorem se_and {rest : List Expr} {a' b' : E} (ma : MW (wE F C a')) (mb : MW (wE F C b')) (ha : PE X a (tW X.K (wE F C a'))) (hb : PE X (.BoolOp .And (b :: rest) pos) (tW X.K (wE F C b'))) : PE X (.BoolOp .And (a :: b :: rest) pos) (tW X.K (wE F C (.and a' b'))) := by
  refine (pe_and ha hb).weak fun σ H Q q => ?_
  obtain ⟨G0, H0, en, G, r, w⟩ := q
  rw [wE] at w
  refine tW_of ma r w fun d t v G1 H1 p e o => ?_
  unfold boolW at p
  split at p
  · cases o.bool e.sub
    refine ⟨_, rfl, ?_⟩
    rename_i k
    by_cases hk : k = true
    · rw [if_pos hk] at p ⊢
      exact tW_of mb (r.step e) p fun d2 t2 v2 G2 H2 q e2 o2 => q _ _ _ (e.trans e2) (o2.start e.sh)
    · rw [if_neg hk] at p ⊢
      exact p _ _ _ e (Rp.bl false)
  · exact p.elim
theorem se_or {rest : List Expr} {a' b' : E} (ma : MW (wE F C a')) (mb : MW (wE F C b')) (ha : PE X a (tW X.K (wE F C a'))) (hb : PE X (.BoolOp .Or (b :: rest) pos) (tW X.K (wE F C b'))) : PE X (.BoolOp .Or (a :: b :: rest) pos) (tW X.K (wE F C (.or a' b'))) := by
  refine (pe_or ha hb).weak fun σ H Q q => ?_
  obtain ⟨G0, H0, en, G, r, w⟩ := q
  rw [wE] at w
  refine tW_of ma r w fun d t v G1 H1 p e o => ?_
  unfold boolW at p
  split at p
  · cases o.bool e.sub
    refine ⟨_, rfl, ?_⟩
    rename_i k
    by_cases hk : k = true
    · rw [if_pos hk] at p ⊢
      exact p _ _ _ e (Rp.bl true)
    · rw [if_neg hk] at p ⊢
      exact tW_of mb (r.step e) p fun d2 t2 v2 G2 H2 q e2 o2 => q _ _ _ (e.trans e2) (o2.start e.sh)
  · exact p.elim
theorem se_ite {t : Expr} {c' a' b' : E} (mc : MW (wE F C c')) (ma : MW (wE F C a')) (mb : MW (wE F C b')) (hc : PT X t (tT X.K (wE F C c'))) (ha : PE X a (tW X.K (wE F C a'))) (hb : PE X b (tW X.K (wE F C b'))) : PE X (.IfExp t a b pos) (tW X.K (wE F C (.ite c' a' b'))) := by
  refine (pe_ifExp hc ha hb).weak fun σ H Q q => ?_
  obtain ⟨G0, H0, en, G, r, w⟩ := q
  rw [wE] at w
  refine tT_of mc r w fun k G1 H1 p e => ?_
  by_cases hk : k = true
  · rw [if_pos hk] at p ⊢
    exact tW_of ma (r.step e) p fun d2 t2 v2 G2 H2 q e2 o2 => q _ _ _ (e.trans e2) (o2.start e.sh)
  · rw [if_neg hk] at p ⊢
    exact tW_of mb (r.step e) p fun d2 t2 v2 G2 H2 q e2 o2 => q _ _ _ (e.trans e2) (o2.start e.sh)
theorem se_idx {a' b' : E} (hs : PlainIx b) (ma : MW (wE F C a')) (mb : MW (wE F C b')) (ha : PE X a (tW X.K (wE F C a'))) (hb : PE X b (tW X.K (wE F C b'))) : PE X (.Subscript a b pos) (tW X.K (wE F C (.idx a' b'))) := by
  refine (pe_ix (ix_list.or ix_tup) ha hb hs).weak fun σ H Q q => ?_
  obtain ⟨G0, H0, en, G, r, w⟩ := q
  rw [wE] at w
  exact tW_of ma r w fun d t v G1 H1 p e o => tW_of mb (r.step e) p fun d2 t2 v2 G2 H2 p2 e2 o2 =>
    idxW_sound (Hs := H) e2.sub (o.mono e2.sg e2.sh) (o2.start e.sh) p2 fun r v q o => q _ _ _ (e.trans e2) o
/-- a part of a slice -/
def tO (K : PySem.W.Frag) (k : Bool) (w : En → (PyData → Tg → Prop) → Prop) : TO := fun σ H Q => ∃ G0 H0 en G, Rel K G0 H0 en G H σ ∧ w en fun d _ => optInt k d fun o => ∀ G' H', Ext G H G' H' → Q o H'
theorem tO_of {K : PySem.W.Frag} {G0 H0 G H : Hp} {en : En} {σ : L2.St} {k : Bool} {w : En → (PyData → Tg → Prop) → Prop} {P : Option Int → Prop} {R : Option Int → Hp → Prop} (m : MW w) (r : Rel K G0 H0 en G H σ) (h : w en fun d _ => optInt k d P)
    (kk : ∀ b G' H', P b → Ext G H G' H' → R b H') : tO K k w σ H R :=
  ⟨G0, H0, en, G, r, m _ _ _ (fun d t p => optInt_mono (fun b q G' H' e => kk b G' H' q e) p) h⟩
theorem so_none : PO X none (tO X.K true (wE F C (.con .none))) := ⟨fun pins s σ H Q I q => po_none.run pins s σ H Q I (by
  obtain ⟨G0, H0, en, G, r, w⟩ := q
  rw [wE] at w
  exact w _ _ r.self)⟩
theorem so_some {a' : E} (ma : MW (wE F C a')) (ha : PE X a (tW X.K (wE F C a'))) : PO X (some a) (tO X.K false (wE F C a')) := ⟨fun pins s σ H Q I q => (po_some ha).run pins s σ H Q I (by
  obtain ⟨G0, H0, en, G, r, w⟩ := q
  refine tW_of ma r w fun d t v G1 H1 p e o => ?_
  unfold optInt at p
  split at p
  · exact absurd ‹false = true› (by decide)
  · cases o.int e.sub
    exact ⟨_, rfl, p _ _ e⟩
  · exact p.elim)⟩
theorem se_slc {lo hi : Option Expr} {a' l' h' : E} {p2 : Pos} (ma : MW (wE F C a')) (ml : MW (wE F C l')) (mh : MW (wE F C h')) (ha : PE X a (tW X.K (wE F C a'))) (hl : PO X lo (tO X.K (isNon l') (wE F C l'))) (hh : PO X hi (tO X.K (isNon h') (wE F C h'))) :
    PE X (.Subscript a (.Slice lo hi none p2) pos) (tW X.K (wE F C (.slc a' l' h'))) := by
  refine (pe_slice (sl_list.or sl_tupA) ha hl hh).weak fun σ H Q q => ?_
  obtain ⟨G0, H0, en, G, r, w⟩ := q
  rw [wE] at w
  refine tW_of ma r w fun d t v G1 H1 p e o => ?_
  refine tO_of ml (r.step e) p fun l G2 H2 p2 e2 => tO_of mh ((r.step e).step e2) p2 fun h G3 H3 p3 e3 => ?_
  exact slcW_sound (Hs := H) e3.sub e3.nl ((o.mono e2.sg e2.sh).mono e3.sg e3.sh) p3 fun d t v G' H' q e4 o4 => q _ _ _ (((e.trans e2).trans e3).trans e4) (o4.start ((e.trans e2).trans e3).sh)
end
end
end Mi

set_option Elab.async false
set_option linter.all false
set_option maxRecDepth 100000
set_option maxHeartbeats 4000000
/-! Displays, calls, what is walked, comprehensions. -/
namespace Mi
open PySem PySem.Spec PyProof.Rows L2

section
variable {X : Cx} {N : List Str} {sc : Scope} {fn : List (Str × Nat)} {cn : List Str} {F : Nat → Spc} {C : Nat → PyData} {k : Nat}
variable {a b e : Expr} {es : List Expr} {pos : Pos}

/-! ### arguments -/
theorem sa_nil : PA X [] (tWs X.K (wEs F C .nil)) := pa_nil.weak fun σ H Q q => by
  obtain ⟨G0, H0, en, G, r, w⟩ := q
  rw [wEs] at w
  exact w [] G H r.self .nil
theorem sa_cons {a' : E} {es' : Es} (ma : MW (wE F C a')) (me : MWs (wEs F C es')) (ha : PE X a (tW X.K (wE F C a'))) (he : PA X es (tWs X.K (wEs F C es'))) (hs : starEach (a :: es) X.env = (false, eval a X.env) :: starEach es X.env) :
    PA X (a :: es) (tWs X.K (wEs F C (.cons a' es'))) := (pa_cons ha he hs).weak fun σ H Q q => by
  obtain ⟨G0, H0, en, G, r, w⟩ := q
  rw [wEs] at w
  exact tW_of ma r w fun d t v G1 H1 p e o => tWs_of me (r.step e) p fun ps vs G2 H2 p2 e2 o2 => p2 _ _ _ (e.trans e2) (.cons (o.mono e2.sg e2.sh) (o2.start e.sh))
theorem VOks.length {K : PySem.W.Frag} {Hs G H : Hp} : ∀ {ps : List (PyData × Tg)} {vs : List V}, VOks K Hs G H ps vs → vs.length = ps.length
  | _, _, .nil => rfl
  | _, _, .cons _ t => congrArg (· + 1) t.length
theorem anyBo_all {ps : List (PyData × Tg)} (h : anyBo ps = false) : (ps.all fun p => decide (p.2 ≠ .bo)) = true := by
  rw [List.all_eq_true]
  intro p hp
  rw [decide_eq_true_eq]
  intro z
  have : anyBo ps = true := List.any_eq_true.mpr ⟨p, hp, decide_eq_true z⟩
  rw [h] at this
  cases this
theorem se_tup {x1} {es' : Es} (me : MWs (wEs F C es')) (he : PA X es (tWs X.K (wEs F C es'))) : PE X (.Tuple es x1 pos) (tW X.K (wE F C (.tup es'))) := (pe_tup he).weak fun σ H Q q => by
  obtain ⟨G0, H0, en, G, r, w⟩ := q
  rw [wE] at w
  refine tWs_of me r w fun ps vs G1 H1 p e o => ?_
  obtain ⟨p1, p2, p3⟩ := p
  refine ⟨by rw [o.length]; exact Nat.le_trans p2 (by decide), fun x hx => ?_⟩
  obtain ⟨G2, e2, s2, r2⟩ := o.freeze e (anyBo_all p1)
  refine p3 _ _ _ (e2.new hx) (show Rp X.K _ _ _ from .tup (SqT.of upd_same) (r2.mono ?_))
  exact fun b o h => by rw [upd_ne (ne_of_none h (e2.sub.free hx))]; exact h
theorem se_lst {es' : Es} (me : MWs (wEs F C es')) (he : PA X es (tWs X.K (wEs F C es'))) : PE X (.List es pos) (tW X.K (wE F C (.lst es'))) := (pe_lst he).weak fun σ H Q q => by
  obtain ⟨G0, H0, en, G, r, w⟩ := q
  rw [wE] at w
  refine tWs_of me r w fun ps vs G1 H1 p e o => ?_
  obtain ⟨p1, p2, p3⟩ := p
  refine ⟨by rw [o.length]; exact Nat.le_trans p2 (by decide), fun x hx => ?_⟩
  obtain ⟨G2, e2, s2, r2⟩ := o.freeze e (anyBo_all p1)
  exact p3 _ _ _ (e2.loose hx) (.new upd_same (e2.sub.free hx) (e2.sh.free hx) r2)
/-- f(e, ..) -/
theorem se_call {up : Bool} {j : Nat} {x : Str} {es' : Es} {p : Pos} (c : Cok X N sc fn cn F C k) (hj : fn[j]? = some (x, (a :: es).length)) (hg : Gl X x) (me : MWs (wEs F C es')) (he : PA X (a :: es) (tWs X.K (wEs F C es'))) (hl : ∀ en Q, wEs F C es' en Q → wEs F C es' en fun ps => Q ps ∧ ps.length = (a :: es).length)
    (hdb : (x == ("__debug__" : Str)) = false) (h1 : starEach (a :: es) X.env = (false, eval a X.env) :: starEach es X.env) (h2 : (backTo pos (starEach es X.env)).any (·.1) = false) :
    PE X (.Call (.Name x p) (a :: es) [] pos) (tW X.K (wE F C (.call up j es'))) := by
  obtain ⟨f, fd, ps, hm, hk, hb, ok⟩ := c.fns j x _ hj
  refine (callG ok c.grd c.room hg hm hk hb he hdb h1 h2).weak fun σ H Q q => ?_
  obtain ⟨G0, H0, en, G, r, w⟩ := q
  rw [wE] at w
  refine tWs_of me r (hl _ _ w) fun ps vs G1 H1 p e o => ?_
  show spS X.K _ (F j) vs H1 Q E0
  exact callW_sound (c.mF j) (by rw [o.length]; exact p.2) e o p.1 fun d t v G' H' q e2 o2 => q _ _ _ e2 o2
/-- a built-in's call -/
theorem se_blt {bi : Bi} {x : Str} {es' : Es} {p : Pos} (c : Cok X N sc fn cn F C k) (hx : x ∈ (["len", "abs", "int", "max", "min", "sum", "tuple", "list", "repr", "isinstance", "range", "reversed", "sorted", "set", "str", "bool"] : List Str)) (hv : bootBuiltins x = some (biV bi)) (hg : Gl X x)
    (me : MWs (wEs F C es')) (he : PA X (a :: es) (tWs X.K (wEs F C es')))
    (hn : x ≠ "__name__") (hdb : (x == ("__debug__" : Str)) = false) (h1 : starEach (a :: es) X.env = (false, eval a X.env) :: starEach es X.env) (h2 : (backTo pos (starEach es X.env)).any (·.1) = false) :
    PE X (.Call (.Name x p) (a :: es) [] pos) (tW X.K (wE F C (.blt bi es'))) := by
  have main : PE X (.Call (.Name x p) (a :: es) [] pos) (tCB (rBi X.K bi) (tWs X.K (wEs F C es'))) := by
    have hr := rBi_ok c.calm c.grd c.hu bi
    have hm := c.bl x hx
    generalize hB : rBi X.K bi = R at hr ⊢
    cases bi <;> first
      | exact pe_callB hr hg hm hv he hn hdb h1 h2
      | exact pe_callTy hr hg hm hv he hn hdb h1 h2
  refine main.weak fun σ H Q q => ?_
  obtain ⟨G0, H0, en, G, r, w⟩ := q
  rw [wE] at w
  exact tWs_of me r w fun ps vs G1 H1 p e o => biW_sound (Hs := H) e.sub e.nl o p fun d t v G' H' q e2 o2 => q _ _ _ (e.trans e2) (o2.start e.sh)

/-- isinstance(a, T) -/
theorem se_isi {ty : Ty} {x : Str} {a' : E} {p p2 : Pos} (c : Cok X N sc fn cn F C k) (hx : x ∈ (["len", "abs", "int", "max", "min", "sum", "tuple", "list", "repr", "isinstance", "range", "reversed", "sorted", "set", "str", "bool"] : List Str)) (hv : bootBuiltins x = some (tyV ty)) (hg : Gl X "isinstance") (hg2 : Gl X x)
    (ma : MW (wE F C a')) (ha : PE X a (tW X.K (wE F C a'))) (hn : x ≠ "__name__") (hdb : (x == ("__debug__" : Str)) = false) (h1 : starEach [a, .Name x p2] X.env = (false, eval a X.env) :: starEach [.Name x p2] X.env) :
    PE X (.Call (.Name "isinstance" p) [a, .Name x p2] [] pos) (tW X.K (wE F C (.isi ty a'))) := by
  have h2 : starEach [.Name x p2] X.env = [(false, eval (.Name x p2) X.env)] := rfl
  refine (pe_callB call_isi hg (c.bl _ (by simp)) (by decide +kernel) (pa_cons ha (pa_cons (pe_bltn (v := .ty (tyN ty)) hg2 (c.bl x hx) hv rfl hn hdb) pa_nil h2) h1) (by decide) (by decide) h1 (by rfl)).weak fun σ H Q q => ?_
  obtain ⟨G0, H0, en, G, r, w⟩ := q
  rw [wE] at w
  refine tW_of ma r w fun d t v G1 H1 p e o => ?_
  obtain ⟨u, b, h1, h2, h3⟩ := isi_ty e.sub o p
  exact ⟨_, _, _, _, _, rfl, .ty _, h1, h2, h3 _ _ _ e (Rp.bl _)⟩
/-- a[lo::c] -/
theorem vals_pick {xs : List V} {us : List Value} (r : Vals xs us) : ∀ js : List Nat, Vals (js.filterMap (xs[·]?)) (js.filterMap (us[·]?))
  | [] => .nil
  | j :: js => by
    cases q : xs[j]? with
    | none =>
      have q2 := r.none_of q
      rw [List.filterMap_cons_none q, List.filterMap_cons_none q2]
      exact vals_pick r js
    | some x =>
      obtain ⟨u, q2, rx⟩ := r.get q
      rw [List.filterMap_cons_some q, List.filterMap_cons_some q2]
      exact .cons rx (vals_pick r js)
theorem rp_pick {K : PySem.W.Frag} {G : Hp} {xs : List V} {ds : List PyData} (r : RpAll K G xs ds) : ∀ js : List Nat, RpAll K G (js.filterMap (xs[·]?)) (js.filterMap (ds[·]?))
  | [] => .nil
  | j :: js => by
    cases q : ds[j]? with
    | none =>
      have q2 : xs[j]? = none := by
        rw [List.getElem?_eq_none_iff] at q ⊢
        rw [r.length]
        exact q
      rw [List.filterMap_cons_none q, List.filterMap_cons_none q2]
      exact rp_pick r js
    | some d =>
      obtain ⟨x, q2, rx⟩ := r.get q
      rw [List.filterMap_cons_some q, List.filterMap_cons_some q2]
      exact .cons rx (rp_pick r js)
theorem se_step {lo : Expr} {a' l' : E} {i : Int} {k1 : Nat} {p1 p3 : Pos} (hi : i ≠ 0) (ma : MW (wE F C a')) (ml : MW (wE F C l')) (ha : PE X a (tW X.K (wE F C a'))) (hl : PE X lo (tW X.K (wE F C l'))) :
    PE X (.Subscript a (.Slice (some lo) none (some (.Constant (.int i) k1 p1)) p3) pos) (tW X.K (wE F C (.step a' l'))) := by
  refine ⟨fun pins s σ H Q I q => ?_⟩
  obtain ⟨G0, H0, en, G, r, w⟩ := q
  rw [wE] at w
  -- the two values, then the slice
  have two : tW X.K (wE F C a') σ H fun v H1 => tW X.K (wE F C l') σ H1 fun l H2 => ∃ (b : Addr) (j : Int) (xs : List V) (ds : List PyData) (G2 : Hp), v = .ref b ∧ l = .int j ∧ H2 b = some (.lst xs) ∧ RpAll X.K G2 xs ds ∧ Ext G H G2 H2 ∧
      ∀ es : List PyData, (∀ e, e ∈ es → e ∈ ds) → es.length ≤ ds.length → ∀ v G' H', Ext G H G' H' → VOk X.K H G' H' (.list es) .fr v → Q v H' := by
    refine tW_of ma r w fun d t v G1 H1 p e o => tW_of ml (r.step e) p fun d2 t2 v2 G2 H2 p e2 o2 => ?_
    unfold stepW at p
    split at p
    · cases o2.int e2.sub
      obtain ⟨b, xs, rfl, h1, h2⟩ := (o.mono e2.sg e2.sh).lst e2.sub
      exact ⟨b, _, xs, _, G2, rfl, rfl, h1, h2, e.trans e2, fun es m1 m2 v G' H' e3 o3 => p es m1 m2 _ _ _ e3 o3⟩
    · exact p.elim
  refine Subscript_ (thn (ha.run pins s σ H _ I two) fun v s1 ⟨x, H1, I1, r1, q1⟩ => ?_)
  have hst : PO X (some (.Constant (.int i) k1 p1)) (tPart (tC (.int i))) := po_some pe_int
  have hlo : PO X (some lo) (fun σ H R => tW X.K (wE F C l') σ H fun l H2 => ∃ j : Int, l = .int j ∧ R (some j) H2) := po_some hl
  refine wpAny_Slice (thn (hlo.run pins s1 σ H1 (fun o H2 => ∃ (b : Addr) (j : Int) (xs : List V) (ds : List PyData) (G2 : Hp), x = .ref b ∧ o = some j ∧ H2 b = some (.lst xs) ∧ RpAll X.K G2 xs ds ∧ Ext G H G2 H2 ∧
      ∀ es : List PyData, (∀ e, e ∈ es → e ∈ ds) → es.length ≤ ds.length → ∀ v G' H', Ext G H G' H' → VOk X.K H G' H' (.list es) .fr v → Q v H') I1 ?_) fun vl s2 ⟨l, H2, I2, pl, q2⟩ => ?_)
  · obtain ⟨G0', H0', en', G', r', w'⟩ := q1
    refine ⟨G0', H0', en', G', r', ml _ _ _ (fun d t q v G2 H2 e o => ?_) w'⟩
    obtain ⟨b, j, xs, ds, G3, e1, e2, z⟩ := q v G2 H2 e o
    exact ⟨j, e2, b, j, xs, ds, G3, e1, rfl, z⟩
  obtain ⟨b, j, xs, ds, G2, rfl, rfl, h1, h2, e, q⟩ := q2
  cases r1
  refine thn (po_none.run pins s2 σ H2 (fun o H3 => o = none ∧ H3 = H2) I2 ⟨rfl, rfl⟩) fun vu s3 ⟨u, H3, I3, pu, eu, e3⟩ => ?_
  subst eu e3
  refine thn (hst.run pins s3 σ H3 (fun o H4 => o = some i ∧ H4 = H3) I3 ⟨i, rfl, rfl, rfl⟩) fun vs s4 ⟨o, H4, I4, ps, eo, e4⟩ => ?_
  subst eo e4
  have I5 : Inv X pins σ H4 { s4 with heap := s4.heap.push { cls := .type "slice", data := .fields #[vl, vu, vs] } } := I4.kept (t' := s4.toks) fun b ob q => Heap.get?_push_of_some _ q
  obtain ⟨its, rv, ht, hz⟩ := I5.list (SqL.of h1)
  have hlen := rv.length
  show wpAny (model X.prog X.w) X.A (subscriptTail a (.Slice (some lo) none (some (.Constant (.int i) k1 p1)) p3) (.ref b) (.ref s4.heap.objs.size)) (EP X pins σ Q) X.xe { s4 with heap := s4.heap.push { cls := .type "slice", data := .fields #[vl, vu, vs] } }
  refine tail_any (ops := [.ref b, .ref s4.heap.objs.size]) ht.isList.typeIs (PySem.slot_list_getitem.lookup) ?_ (by with_unfolding_all rfl)
  refine wpAny_getItem_list_slice ht.isList (Heap.IsSliceOf.new _ vl vu vs) pl pu ps (fun z => hi (by cases z; rfl)) ?_ (by rw [List.size_toArray]; omega)
  have szp := slicePick_size_le its.toArray (some j) none (some i)
  unfold slicePick at szp ⊢
  generalize sliceRange _ _ _ = js at szp ⊢
  have eq1 : (js.filterMap (its.toArray[·]?)) = js.filterMap (its[·]?) := by
    exact congrArg (fun f => js.filterMap f) (funext fun n => by simp)
  rw [eq1] at szp ⊢
  have rv' := vals_pick rv js
  have rp' := rp_pick h2 js
  have hp := I5.hok.fresh (Nat.le_refl _)
  refine ⟨.ref _, _, I5.laid (t' := s4.toks) (o := .lst (js.filterMap (xs[·]?))) (fun b ob q => Heap.get?_push_of_some _ q) (Nat.le_refl _) ?_, rfl, q (js.filterMap (ds[·]?)) ?_ ?_ _ _ _ (e.loose hp) (.new upd_same (e.sub.free hp) (e.sh.free hp) rp')⟩
  · refine ⟨?_, _, 0, rv', Heap.get?_push_size _ rfl⟩
    rw [rv'.length]
    simp only [List.size_toArray] at szp
    omega
  · intro z hz'
    obtain ⟨n, _, hn⟩ := List.mem_filterMap.mp hz'
    exact List.mem_of_getElem? hn
  · rw [← rp'.length, rv'.length, ← h2.length, hlen]
    simpa using szp
/-! ### what is walked -/
structure Walk (J : L2.It) (S : Hp → Prop) (vs : List V) : Prop where
  go : ∀ H i, S H → i < vs.length → J.go i H
  stop : ∀ H i, S H → vs.length ≤ i → J.stop i H
  yld : ∀ H i x H', S H → i < vs.length → J.yld i H x H' → H' = H ∧ vs[i]? = some x
def Walks (J : L2.It) (t : Tg) (G H : Hp) (vs : List V) : Prop := ∃ S, Walk J S vs ∧ (∀ H', Same H H' → S H') ∧ (t ≠ .bo → ∀ H', Same G H' → S H')
def tI (K : PySem.W.Frag) (w : En → (List PyData → Tg → Prop) → Prop) : TI := fun σ H R => ∃ G0 H0 en G, Rel K G0 H0 en G H σ ∧ w en fun ds t => ∀ J vs G' H', Ext G H G' H' → RpAll K G' vs ds → Walks J t G' H' vs → R J H'
theorem _root_.L2.PI.weak {X : Cx} {tg e : Expr} {t t' : TI} (h : PI X tg e t) (w : ∀ σ H Q, t' σ H Q → t σ H Q) : PI X tg e t' := ⟨fun pins s σ H Q I q => h.run pins s σ H Q I (w σ H Q q)⟩
abbrev MI (w : En → (List PyData → Tg → Prop) → Prop) : Prop := ∀ en (Q Q' : List PyData → Tg → Prop), (∀ d t, Q d t → Q' d t) → w en Q → w en Q'
theorem walk_list {K : PySem.W.Frag} {l : Addr} {xs : List V} : Walk (Itl K l) (fun H => SqL K H l xs) xs where
  go := fun H i s hi => ⟨xs, xs[i], s, List.getElem?_eq_getElem hi⟩
  stop := fun H i s hi => ⟨xs, s, hi⟩
  yld := fun H i x H' s hi y => ⟨y.1, y.2 xs s⟩
theorem walk_tup {K : PySem.W.Frag} {l : Addr} {xs : List V} : Walk (Itt K l) (fun H => SqT K H l xs) xs where
  go := fun H i s hi => ⟨xs, xs[i], s, List.getElem?_eq_getElem hi⟩
  stop := fun H i s hi => ⟨xs, s, hi⟩
  yld := fun H i x H' s hi y => ⟨y.1, y.2 xs s⟩
theorem walk_rng {lo : Int} {n : Nat} : Walk (Itr lo n) (fun _ => True) ((List.range n).map fun j => .int (lo + (j : Nat))) where
  go := fun H i s hi => by
    show i < n
    simpa using hi
  stop := fun H i s hi => by
    show n ≤ i
    simpa using hi
  yld := fun H i x H' s hi y => by
    obtain ⟨y1, y2⟩ := y
    refine ⟨y1, ?_⟩
    have hi' : i < n := by simpa using hi
    rw [List.getElem?_map, List.getElem?_range hi', y2]
    rfl
theorem walk_rngc {lo c : Int} {n : Nat} : Walk (Itc lo c n) (fun _ => True) ((List.range n).map fun j => .int (lo + (j : Nat) * c)) where
  go := fun H i s hi => (by simpa using hi : i < n)
  stop := fun H i s hi => (by simpa using hi : n ≤ i)
  yld := fun H i x H' s hi y => by
    obtain ⟨y1, y2⟩ := y
    refine ⟨y1, ?_⟩
    have hi' : i < n := by simpa using hi
    rw [List.getElem?_map, List.getElem?_range hi', y2]
    rfl
theorem walk_rev {K : PySem.W.Frag} {l : Addr} {xs : List V} : Walk (Itv K l xs.length) (fun H => SqL K H l xs) xs.reverse where
  go := fun H i s hi => by
    have hi' : i < xs.length := by simpa using hi
    have h2 : xs.length - 1 - i < xs.length := by omega
    exact ⟨hi', xs, xs[xs.length - 1 - i], s, List.getElem?_eq_getElem h2⟩
  stop := fun H i s hi => (by simpa using hi : xs.length ≤ i)
  yld := fun H i x H' s hi y => by
    have hi' : i < xs.length := by simpa using hi
    refine ⟨y.1, ?_⟩
    rw [List.getElem?_reverse hi']
    exact y.2 xs s
theorem RpAll.range {K : PySem.W.Frag} {G : Hp} (f : Nat → Int) : ∀ n : Nat, RpAll K G ((List.range n).map fun j => .int (f j)) ((List.range n).map fun j => .int (f j))
  | 0 => .nil
  | n + 1 => by
    rw [List.range_succ, List.map_append, List.map_append]
    exact (RpAll.range f n).append (.cons (.int _) .nil)
variable {tg : Expr}
/-- a list or a tuple -/
theorem si_seq {a' : E} (c : Cok X N sc fn cn F C k) (ma : MW (wE F C a')) (ha : PE X a (tW X.K (wE F C a'))) : PI X tg a (tI X.K (wIt F C (.seq a'))) := by
  refine ⟨fun pins s σ H R I q => ?_⟩
  have q0 := q
  obtain ⟨G0, H0, en, G, r, w⟩ := q
  rw [wIt] at w
  -- the value tells which rule
  have both : tW X.K (wE F C a') σ H fun x H1 => (∃ l, x = .ref l ∧ (∃ xs, SqL X.K H1 l xs) ∧ R (Itl X.K l) H1) ∨ (∃ l, x = .ref l ∧ (∃ xs, SqT X.K H1 l xs) ∧ R (Itt X.K l) H1) := by
    refine tW_of ma r w fun d t v G1 H1 p e o => ?_
    cases d with
    | list ds =>
      cases t with
      | fz =>
        obtain ⟨l, xs, rfl, h1, h2⟩ := VOk.lst (t := .fz) o e.sub
        cases (show Rp X.K G1 _ _ from o) with
        | lst g1 g2 =>
          have e1 := e.sub _ _ g1
          rw [h1] at e1
          cases e1
          exact .inl ⟨l, rfl, ⟨xs, SqL.of h1⟩, p _ _ _ _ e g2 ⟨_, walk_list, fun H' s => SqL.of (s _ _ h1), fun _ H' s => SqL.of (s _ _ g1)⟩⟩
      | bo =>
        obtain ⟨l, xs, ds', rfl, e', h1, h2⟩ := o
        cases e'
        exact .inl ⟨l, rfl, ⟨xs, SqL.of h1⟩, p _ _ _ _ e (h2.mono off_sub) ⟨_, walk_list, fun H' s => SqL.of (s _ _ h1), fun z => absurd rfl z⟩⟩
      | fr =>
        obtain ⟨l, ⟨xs, ds', rfl, e', h1, h2⟩, h3⟩ := o
        cases e'
        obtain ⟨e2, s2⟩ := e.frz h1 h3
        exact .inl ⟨l, rfl, ⟨xs, SqL.of h1⟩, p _ _ _ _ e2 ((h2.mono off_sub).mono s2) ⟨_, walk_list, fun H' s => SqL.of (s _ _ h1), fun _ H' s => SqL.of (s _ _ upd_same)⟩⟩
    | tuple ds =>
      obtain ⟨l, xs, rfl, h1, h2⟩ := o.tup
      exact .inr ⟨l, rfl, ⟨xs, same_sqT e.sub h1⟩, p _ _ _ _ e h2 ⟨_, walk_tup, fun H' s => same_sqT s (same_sqT e.sub h1), fun _ H' s => same_sqT s h1⟩⟩
    | _ => exact p.elim
  refine thn (ha.run pins s σ H _ I both) fun v s1 ⟨x, H1, I1, r1, q1⟩ => ?_
  rcases q1 with q1 | q1
  · -- the value is known: run the list's rule on it
    obtain ⟨l, rfl, ⟨xs, hq⟩, q⟩ := q1
    cases r1
    obtain ⟨its, rv, p, hz⟩ := I1.list hq
    refine wpAny_pyIter_list p.isList ?_
    refine ⟨s1.heap.objs.size, [s1.heap.objs.size], _, _, H1, rfl, I1.kept (t' := s1.toks) fun b o e => Heap.get?_push_of_some _ e, turn_list l _, ⟨_, Heap.get?_push_size _ rfl, rfl, rfl⟩, fun b hb => ?_, q⟩
    have e : b = s1.heap.objs.size := by simpa using hb
    subst e
    exact I1.fpOk (Nat.le_refl _) (I1.hok.fresh (Nat.le_refl _))
  · obtain ⟨l, rfl, ⟨xs, hq⟩, q⟩ := q1
    cases r1
    obtain ⟨its, rv, p, hz⟩ := I1.tuple hq
    refine wpAny_pyIter_tuple (show s1.heap.IsTuple l its.toArray from p) ?_
    refine ⟨s1.heap.objs.size, [s1.heap.objs.size], _, _, H1, rfl, I1.kept (t' := s1.toks) fun b o e => Heap.get?_push_of_some _ e, turn_tuple l _, ⟨_, Heap.get?_push_size _ rfl, rfl, rfl⟩, fun b hb => ?_, q⟩
    have e : b = s1.heap.objs.size := by simpa using hb
    subst e
    exact I1.fpOk (Nat.le_refl _) (I1.hok.fresh (Nat.le_refl _))
theorem mem_range : ("range" : Str) ∈ (["len", "abs", "int", "max", "min", "sum", "tuple", "list", "repr", "isinstance", "range", "reversed", "sorted", "set", "str", "bool"] : List Str) := by simp
theorem mem_reversed : ("reversed" : Str) ∈ (["len", "abs", "int", "max", "min", "sum", "tuple", "list", "repr", "isinstance", "range", "reversed", "sorted", "set", "str", "bool"] : List Str) := by simp
theorem si_rng1 {a' : E} {p : Pos} (c : Cok X N sc fn cn F C k) (hg : Gl X "range") (ma : MW (wE F C a')) (ha : PE X a (tW X.K (wE F C a'))) (hs : starEach [a] X.env = [(false, eval a X.env)]) :
    PI X tg (.Call (.Name "range" p) [a] [] pos) (tI X.K (wIt F C (.rng (.con (.int 0)) a'))) := by
  refine (pi_range1 hg (c.bl _ mem_range) (pa_cons ha pa_nil (by rw [hs]; rfl)) hs).weak fun σ H R q => ?_
  obtain ⟨G0, H0, en, G, r, w⟩ := q
  rw [wIt] at w
  simp only [wE] at w
  refine tW_of ma r w fun d t v G1 H1 p e o => ?_
  cases d with
  | int j =>
    cases o.int e.sub
    obtain ⟨⟨_, _, p1, p2⟩, p3⟩ := p
    refine ⟨j, rfl, p1, p2, ?_⟩
    have e0 : j - 0 = j := Int.sub_zero j
    rw [e0] at p3
    exact p3 _ _ _ _ e (RpAll.range (fun i => 0 + (i : Int)) _) ⟨_, walk_rng, fun _ _ => trivial, fun _ _ _ => trivial⟩
  | _ => exact p.elim
theorem si_rng2 {a' b' : E} {p : Pos} (c : Cok X N sc fn cn F C k) (hg : Gl X "range") (ma : MW (wE F C a')) (mb : MW (wE F C b')) (ha : PE X a (tW X.K (wE F C a'))) (hb : PE X b (tW X.K (wE F C b'))) (hs : starEach [a, b] X.env = [(false, eval a X.env), (false, eval b X.env)]) (hs2 : starEach [b] X.env = [(false, eval b X.env)]) :
    PI X tg (.Call (.Name "range" p) [a, b] [] pos) (tI X.K (wIt F C (.rng a' b'))) := by
  refine (pi_range2 hg (c.bl _ mem_range) (pa_cons ha (pa_cons hb pa_nil (by rw [hs2]; rfl)) (by rw [hs, hs2])) hs hs2).weak fun σ H R q => ?_
  obtain ⟨G0, H0, en, G, r, w⟩ := q
  rw [wIt] at w
  refine tW_of ma r w fun d t v G1 H1 p e o => tW_of mb (r.step e) p fun d2 t2 v2 G2 H2 p e2 o2 => ?_
  cases d with
  | int i =>
    cases d2 with
    | int j =>
      cases o.int e.sub
      cases o2.int e2.sub
      refine ⟨i, j, rfl, p.1, ?_⟩
      exact p.2 _ _ _ _ (e.trans e2) (RpAll.range (fun n => i + (n : Int)) _) ⟨_, walk_rng, fun _ _ => trivial, fun _ _ _ => trivial⟩
    | _ => exact p.elim
  | _ => exact p.elim
theorem si_rngc {a' b' : E} {g : Expr} {gc : Int} {p : Pos} (c : Cok X N sc fn cn F C k) (hg : Gl X "range") (ma : MW (wE F C a')) (mb : MW (wE F C b')) (ha : PE X a (tW X.K (wE F C a'))) (hb : PE X b (tW X.K (wE F C b'))) (hgc : PE X g (tC (.int gc)))
    (hs : starEach [a, b, g] X.env = (false, eval a X.env) :: starEach [b, g] X.env) (hs2 : starEach [b, g] X.env = (false, eval b X.env) :: starEach [g] X.env) (hs3 : starEach [g] X.env = [(false, eval g X.env)]) (hpl : (backTo pos (starEach [b, g] X.env)).any (·.1) = false) :
    PI X tg (.Call (.Name "range" p) [a, b, g] [] pos) (tI X.K (wIt F C (.rngc a' b' gc))) := by
  refine (pi_range3 hg (c.bl _ mem_range) (pa_cons ha (pa_cons hb (pa_cons hgc pa_nil (by rw [hs3]; rfl)) hs2) hs) hs hpl).weak fun σ H R q => ?_
  obtain ⟨G0, H0, en, G, r, w⟩ := q
  rw [wIt] at w
  refine tW_of ma r w fun d t v G1 H1 p e o => tW_of mb (r.step e) p fun d2 t2 v2 G2 H2 p e2 o2 => ?_
  cases d with
  | int i =>
    cases d2 with
    | int j =>
      cases o.int e.sub
      cases o2.int e2.sub
      obtain ⟨n, p1, p2⟩ := p
      exact ⟨i, j, gc, n, rfl, p1, p2 _ _ _ _ (e.trans e2) (RpAll.range (fun n => i + (n : Int) * gc) _) ⟨_, walk_rngc, fun _ _ => trivial, fun _ _ _ => trivial⟩⟩
    | _ => exact p.elim
  | _ => exact p.elim
theorem si_rev {a' : E} {p : Pos} (c : Cok X N sc fn cn F C k) (hg : Gl X "reversed") (ma : MW (wE F C a')) (ha : PE X a (tW X.K (wE F C a'))) (hs : starEach [a] X.env = [(false, eval a X.env)]) :
    PI X tg (.Call (.Name "reversed" p) [a] [] pos) (tI X.K (wIt F C (.rev a'))) := by
  refine (pi_reversed hg (c.bl _ mem_reversed) (pa_cons ha pa_nil (by rw [hs]; rfl)) hs).weak fun σ H R q => ?_
  obtain ⟨G0, H0, en, G, r, w⟩ := q
  rw [wIt] at w
  refine tW_of ma r w fun d t v G1 H1 p e o => ?_
  cases d with
  | list ds =>
    cases t with
    | fz =>
      obtain ⟨l, xs, rfl, h1, h2⟩ := VOk.lst (t := .fz) o e.sub
      cases (show Rp X.K G1 _ _ from o) with
      | lst g1 g2 =>
        have e1 := e.sub _ _ g1
        rw [h1] at e1
        cases e1
        exact ⟨l, xs, rfl, SqL.of h1, p _ _ _ _ e g2.reverse ⟨_, walk_rev, fun H' s => SqL.of (s _ _ h1), fun _ H' s => SqL.of (s _ _ g1)⟩⟩
    | bo =>
      obtain ⟨l, xs, ds', rfl, e', h1, h2⟩ := o
      cases e'
      exact ⟨l, xs, rfl, SqL.of h1, p _ _ _ _ e (h2.mono off_sub).reverse ⟨_, walk_rev, fun H' s => SqL.of (s _ _ h1), fun z => absurd rfl z⟩⟩
    | fr =>
      obtain ⟨l, ⟨xs, ds', rfl, e', h1, h2⟩, h3⟩ := o
      cases e'
      obtain ⟨e2, s2⟩ := e.frz h1 h3
      exact ⟨l, xs, rfl, SqL.of h1, p _ _ _ _ e2 ((h2.mono off_sub).mono s2).reverse ⟨_, walk_rev, fun H' s => SqL.of (s _ _ h1), fun _ H' s => SqL.of (s _ _ upd_same)⟩⟩
  | _ => exact p.elim
end
end Mi

set_option Elab.async false
set_option linter.all false
set_option maxRecDepth 100000
set_option maxHeartbeats 4000000
/-! Targets, comprehensions. -/
namespace Mi
open PySem PySem.Spec PyProof.Rows L2

def gNames : List Nat → TGs
  | [] => gNil
  | i :: is => gCons (gName i) (gNames is)
def gT (K : PySem.W.Frag) : Tt → TG
  | .one i => gName i
  | .many is => fun v σ H Q => gTup K is.length (gNames is) v σ H Q ∨ gUnl K is.length (gNames is) v σ H Q
theorem pg_many {X : Cx} {es : List Expr} {k : Nat} {is : List Nat} {pos : Pos} (hc : X.calm = true) (h : PGs X es (gNames is)) (hn : (assignEach es X.env).length = is.length) (hst : (assignEach es X.env).findIdx? (·.1) = none) : PG X (.Tuple es k pos) (gT X.K (.many is)) :=
  ⟨fun pins s σ H v u Q I r hw => hw.elim ((pg_tup hc h hn hst).run pins s σ H v u Q I r) ((pg_unl hc h hn hst).run pins s σ H v u Q I r)⟩
def Tt.ix : Tt → List Nat
  | .one i => [i]
  | .many is => is
section
variable {K : PySem.W.Frag} {G0 H0 G H : Hp}
theorem wipe_set {σ : L2.St} {i : Nat} {o : Option V} : ∀ {vs : List Nat}, i ∈ vs → wipe (σ.set i o) vs = wipe σ vs
  | v :: vs, h => by
    unfold wipe
    by_cases hv : v = i
    · subst hv
      by_cases hm : v ∈ vs
      · rw [wipe_set hm]
      · have : ∀ (us : List Nat), (wipe (σ.set v o) us).set v none = (wipe σ us).set v none := by
          intro us
          induction us with
          | nil => unfold wipe; rw [List.set_set]
          | cons u us ih =>
            unfold wipe
            by_cases hu : u = v
            · subst hu
              rw [List.set_set, List.set_set]
              exact ih
            · rw [List.set_comm _ _ hu, ih, List.set_comm _ _ (Ne.symm hu)]
        exact this vs
    · rcases List.mem_cons.mp h with e | h
      · exact absurd e.symm hv
      · rw [wipe_set h]
  | [], h => nomatch h
theorem Rel.wipe : ∀ {vs : List Nat} {en : En} {σ : L2.St}, Rel K G0 H0 en G H σ → Rel K G0 H0 (wipeE en vs) G H (L2.wipe σ vs)
  | [], _, _, r => r
  | v :: vs, _, _, r => by
    unfold wipeE L2.wipe
    exact (Rel.wipe r).unset v none
theorem setM_sound : ∀ {is : List Nat} {ds : List PyData} {xs : List V} {en : En} {σ : L2.St} {R : L2.St → Hp → Prop}, ds.length = is.length → RpAll K G xs ds → Rel K G0 H0 en G H σ →
    (∀ σ', Rel K G0 H0 (setM en is ds) G H σ' → (∀ vs : List Nat, (∀ i ∈ is, i ∈ vs) → L2.wipe σ' vs = L2.wipe σ vs) → R σ' H) → gNames is xs σ H R
  | [], [], _, en, σ, R, _, h, r, k => by
    cases h
    exact ⟨rfl, k σ r fun _ _ => rfl⟩
  | i :: is, d :: ds, _, en, σ, R, hl, h, r, k => by
    cases h with
    | cons h1 h2 =>
      refine ⟨_, _, rfl, ?_⟩
      exact setM_sound (by simpa using hl) h2 (r.set h1 i) fun σ' r' hw => k σ' r' fun vs hv => by
        rw [hw vs fun j hj => hv j (List.mem_cons_of_mem _ hj)]
        exact wipe_set (hv i List.mem_cons_self)
  | [], d :: ds, _, _, _, _, hl, _, _, _ => by cases hl
  | i :: is, [], _, _, _, _, hl, _, _, _ => by cases hl
theorem tg_sound {t : Tt} {d : PyData} {v : V} {en : En} {σ : L2.St} {P : En → Prop} {R : L2.St → Hp → Prop} (h : tgW t d en P) (hv : Rp K G v d) (r : Rel K G0 H0 en G H σ)
    (k : ∀ en' σ', P en' → Rel K G0 H0 en' G H σ' → (∀ vs : List Nat, (∀ i ∈ t.ix, i ∈ vs) → L2.wipe σ' vs = L2.wipe σ vs) → R σ' H) : gT K t v σ H R := by
  cases t with
  | one i =>
    unfold tgW at h
    exact k _ _ h (r.set hv i) fun vs hvs => wipe_set (hvs i (List.mem_singleton.mpr rfl))
  | many is =>
    unfold tgW at h
    split at h
    · rename_i h0; cases h0
    · rename_i h0
      cases h0
      cases hv with
      | tup h1 h2 =>
        refine .inl ⟨_, _, rfl, same_sqT r.ext.sub h1, by rw [h2.length]; exact h.1, ?_⟩
        exact setM_sound h.1 h2 r fun σ' r' hw => k _ σ' h.2 r' hw
    · rename_i h0
      cases h0
      cases hv with
      | lst h1 h2 =>
        refine .inr ⟨_, _, rfl, SqL.of (r.ext.sub _ _ h1), by rw [h2.length]; exact h.1, ?_⟩
        exact setM_sound h.1 h2 r fun σ' r' hw => k _ σ' h.2 r' hw
    · exact h.elim
end

section
variable {X : Cx} {N : List Str} {sc : Scope} {fn : List (Str × Nat)} {cn : List Str} {F : Nat → Spc} {C : Nat → PyData} {k : Nat}
variable {elt tg iter : Expr} {ifs : List Expr} {scope : Scope} {own : List (Str × Nat)} {pos : Pos}
/-- what a comprehension's turns ask -/
theorem lc_sound {K : PySem.W.Frag} {t : Tt} {c' b' : E} {it' : It} {vs : List Nat} {σ : L2.St} {H : Hp} {Q : VK} (hix : ∀ i ∈ t.ix, i ∈ vs) (mF : ∀ j, MonoS (F j))
    (h : tW K (wE F C (.comp vs t it' c' b')) σ H Q) : tLc (tI K (wIt F C it')) (gT K t) (tT K (wE F C c')) (tW K (wE F C b')) vs σ H Q := by
  obtain ⟨G0, H0, en, G, r, w⟩ := h
  rw [wE] at w
  refine ⟨G0, H0, en, G, r, wIt_mono mF it' en _ _ (fun ds tt q J xs G1 H1 e rp wk D hD => ?_) w⟩
  obtain ⟨S, wk, s1, s2⟩ := wk
  have hlen := rp.length
  let f : PyData → (Option PyData → Prop) → Prop := fun x k => tgW t x (wipeE en vs) fun en' => wE F C c' en' fun dc _ => boolW dc fun r => if r = true then wE F C b' en' fun y t => t ≠ .bo ∧ k (some y) else k none
  let Qr : List PyData → Prop := fun r => ∀ v G' H', Ext G H G' H' → VOk K H G' H' (.list r) .fr v → Q v H'
  have q : compW f ds [] Qr := q
  refine ⟨fun i m Hc => m = xs.length - i ∧ i ≤ xs.length ∧ ∃ acc dacc Gc, Hc D = some (.lst acc) ∧ Gc D = none ∧ RpAll K Gc acc dacc ∧ Ext G1 H1 Gc Hc ∧ compW f (ds.drop i) dacc Qr,
    ⟨xs.length, by simp, Nat.zero_le _, [], [], G1, upd_same, e.sub.free hD, .nil, (Ext.refl e.sub e.nl).loose hD, by simpa using q⟩, ?_⟩
  rintro i m Hc ⟨rfl, hi, acc, dacc, Gc, hD1, hD2, ra, ec, qc⟩
  have hS : S Hc := s1 _ ec.sh
  by_cases hlt : i < xs.length
  · refine .inr ⟨wk.go _ _ hS hlt, fun Hn => ∃ acc dacc Gc, Hn D = some (.lst acc) ∧ Gc D = none ∧ RpAll K Gc acc dacc ∧ Ext G1 H1 Gc Hn ∧ compW f (ds.drop (i + 1)) dacc Qr, fun H' hn => ⟨xs.length - (i + 1), by omega, rfl, hlt, hn⟩, fun x H' hy => ?_⟩
    obtain ⟨rfl, hx⟩ := wk.yld _ _ _ _ hS hlt hy
    have hd : i < ds.length := by omega
    obtain ⟨x', hx', rx⟩ := rp.get (List.getElem?_eq_getElem hd)
    rw [hx] at hx'
    cases hx'
    rw [List.drop_eq_getElem_cons hd] at qc
    unfold compW at qc
    have rel : Rel K G0 H0 (wipeE en vs) Gc H' (L2.wipe σ vs) := ((r.step e).step ec).wipe
    refine tg_sound qc (rx.mono ec.sg) rel fun en' σ' q1 r1 hw => ⟨?_, ?_⟩
    · have := hw vs hix
      rw [this]
      have ww : ∀ (us : List Nat), (∀ u ∈ us, u ∈ vs) → L2.wipe (L2.wipe σ us) vs = L2.wipe σ vs := by
        intro us
        induction us with
        | nil => intro _; rfl
        | cons u us ih =>
          intro hu
          rw [show L2.wipe σ (u :: us) = (L2.wipe σ us).set u none from rfl]
          rw [wipe_set (hu u List.mem_cons_self)]
          exact ih fun z hz => hu z (List.mem_cons_of_mem _ hz)
      exact ww vs fun _ h => h
    · refine tT_of (P := fun b => if b = true then wE F C b' en' (fun y t => t ≠ .bo ∧ (dacc.length < LIM ∧ compW f (ds.drop (i + 1)) (dacc ++ [y]) Qr)) else compW f (ds.drop (i + 1)) dacc Qr) (wE_mono mF c') r1 q1 fun b G3 H3 q3 e3 => ?_
      have hD3 : G3 D = none := (e3.old D _ hD1).trans hD2
      by_cases hb : b = true
      · rw [if_pos hb] at q3 ⊢
        refine tW_of (wE_mono mF b') (r1.step e3) q3 fun d td y G4 H4 q4 e4 o4 => ?_
        obtain ⟨q41, q42, q43⟩ := q4
        obtain ⟨G5, e5, s5, r5⟩ := o4.freeze e4 q41
        have hH4 : H4 D = some (.lst acc) := e4.sh _ _ (e3.sh _ _ hD1)
        have hG5 : G5 D = none := (e5.old D _ (e3.sh _ _ hD1)).trans hD3
        refine ⟨acc, hH4, by rw [ra.length]; exact size_lt q42, acc ++ [y], dacc ++ [d], G5, upd_same, hG5, (ra.mono ((e3.sg.trans e5.sg))).append (.cons r5 .nil), ?_, q43⟩
        exact ((ec.trans e3).trans e5).wrote hH4 hG5 hD
      · rw [if_neg hb] at q3 ⊢
        exact ⟨acc, dacc, G3, e3.sh _ _ hD1, hD3, ra.mono e3.sg, ec.trans e3, q3⟩
  · have ei : i = xs.length := by omega
    subst ei
    refine .inl ⟨wk.stop _ _ hS (Nat.le_refl _), ?_⟩
    rw [show ds.drop xs.length = [] by rw [hlen]; exact List.drop_length] at qc
    exact qc _ _ _ (e.trans ec) (.new hD1 hD2 (e.sh.free hD) ra)
theorem se_comp {t : Tt} {c' b' : E} {it' : It} (c : Cok X N sc fn cn F C k) (hix : ∀ i ∈ t.ix, i ∈ own.map (·.2)) (hi : PI X tg iter (tI X.K (wIt F C it'))) (ok : BlkOk X.N X.env.scope scope own)
    (hg : ∀ (s : Shared) (H : Hp) (C : Addr) (cl : List (Str × Addr)) (fp : List Addr), PG (X.blk s H scope (compEnvC scope cl C X.env) fp) tg (gT X.K t)) (ht : ∀ (s : Shared) (H : Hp) (D : Addr) (cl : List (Str × Addr)) (fp : List Addr), PTs (X.blk s H scope (compEnvC scope cl D X.env) fp) ifs (tT X.K (wE F C c')))
    (he : ∀ (s : Shared) (H : Hp) (D : Addr) (cl : List (Str × Addr)) (fp : List Addr), PE (X.blk s H scope (compEnvC scope cl D X.env) fp) elt (tW X.K (wE F C b'))) (hs : ∀ x, foldedSetIterable iter X.env x = pure x) :
    PE X (.ListComp elt [⟨tg, iter, ifs, 0⟩] scope pos) (tW X.K (wE F C (.comp (own.map (·.2)) t it' c' b'))) :=
  (pe_lc c.calm c.nd hi ok hg ht he hs).weak fun σ H Q q => lc_sound hix c.mF q
/-- no test -/
theorem sts_nil : PTs X [] (tT X.K (wE F C (.con (.bool true)))) := ⟨fun pins s σ H Q I q => pts_nil.run pins s σ H Q I (by
  obtain ⟨G0, H0, en, G, r, w⟩ := q
  rw [wE] at w
  exact w _ _ r.self)⟩
/-- the same stands in a comprehension's block -/
theorem Cok.blk (c : Cok X N sc fn cn F C k) (s : Shared) (H : Hp) (scope : Scope) (cl : List (Str × Addr)) (D : Addr) (fp : List Addr) : Cok (X.blk s H scope (compEnvC scope cl D X.env) fp) N (relS scope sc) fn cn F C k :=
  ⟨c.calm, c.nd, c.eN, by rw [← c.esc]; rfl, c.mF, c.fns, c.cns, c.bl, c.room, c.grd⟩
end
end Mi

set_option Elab.async false
set_option linter.all false
set_option maxRecDepth 100000
set_option maxHeartbeats 4000000
/-! Statements. -/
namespace Mi
open PySem PySem.Spec PyProof.Rows L2

section
variable {K : PySem.W.Frag} {G0 H0 G H G1 H1 : Hp} {en : En} {σ : L2.St}
/-- a new list is owned -/
theorem Rel.setOwn (r : Rel K G0 H0 en G H σ) (e : Ext G H G1 H1) {l : Addr} {xs : List V} {ds : List PyData} (hl : H1 l = some (.lst xs)) (hn : H l = none) (h : RpAll K (off G1 l) xs ds) (i : Nat) :
    Rel K G0 H0 (en.set i (some ⟨true, .list ds⟩)) (off G1 l) H1 (σ.set i (some (.ref l))) := by
  have h0 : H0 l = none := r.ext.sh.free hn
  have g : G l = none := r.ext.sub.free hn
  have g0 : G0 l = none := r.ext.sg.free g
  have sg : Same G (off G1 l) := off_of e.sg g
  refine ⟨(r.ext.trans e).offer hl h0 g0, by rw [List.length_set, List.length_set]; exact r.len, fun j s q => ?_, fun j k s s' m hjk e1 e2 o1 o2 z => ?_⟩
  · rcases getElem?_set_some q with ⟨rfl, q, hi⟩ | ⟨hj, q⟩
    · cases q
      refine ⟨.ref l, List.getElem?_set_self (by rw [← r.len]; exact hi), ?_⟩
      unfold SlotOk
      rw [if_pos rfl]
      exact ⟨l, xs, ds, rfl, rfl, hl, off_same, h0, h⟩
    · obtain ⟨w, e1, o⟩ := r.slot j s q
      refine ⟨w, by rw [List.getElem?_set_ne (Ne.symm hj)]; exact e1, ?_⟩
      unfold SlotOk at o ⊢
      split
      · rename_i hs
        rw [if_pos hs] at o
        obtain ⟨m, ys, es, rfl, q2, q3, q4, q5, q6⟩ := o
        refine ⟨m, ys, es, rfl, q2, e.sh _ _ q3, ?_, q5, q6.mono sg⟩
        rw [off_ne (ne_of_none q3 hn)]
        exact (e.old _ _ q3).trans q4
      · rename_i hs
        rw [if_neg hs] at o
        exact o.mono sg
  · have lne : ∀ (j : Nat) (s : Slot) (m : Addr), en[j]? = some (some s) → s.own = true → σ[j]? = some (some (.ref m)) → m ≠ l := fun j s m q o z => by
      obtain ⟨w, e1, oo⟩ := r.slot j s q
      rw [z] at e1
      cases e1
      unfold SlotOk at oo
      rw [if_pos o] at oo
      obtain ⟨m', ys, es, q1, q2, q3, _⟩ := oo
      cases q1
      exact ne_of_none q3 hn
    rcases getElem?_set_some e1 with ⟨rfl, q, hi⟩ | ⟨hj, q⟩
    · have hz : m = l := by
        rw [List.getElem?_set_self (by rw [← r.len]; exact hi)] at z
        cases z
        rfl
      rcases getElem?_set_some e2 with ⟨rfl, q, hi⟩ | ⟨hk, q⟩
      · exact absurd rfl hjk
      · rw [List.getElem?_set_ne (Ne.symm hk)]
        intro z2
        exact lne k s' m q o2 z2 hz
    · rw [List.getElem?_set_ne (Ne.symm hj)] at z
      rcases getElem?_set_some e2 with ⟨rfl, q', hi⟩ | ⟨hk, q'⟩
      · rw [List.getElem?_set_self (by rw [← r.len]; exact hi)]
        intro z2
        cases z2
        exact lne j s l q o1 z rfl
      · rw [List.getElem?_set_ne (Ne.symm hk)]
        exact r.dis j k s s' m hjk q q' o1 o2 z
/-- any value is stored -/
theorem store_sound (r : Rel K G0 H0 en G H σ) (e : Ext G H G1 H1) {d : PyData} {t : Tg} {v : V} (o : VOk K H G1 H1 d t v) (ht : t ≠ .bo) (own : Bool) (i : Nat) :
    ∃ G2, Rel K G0 H0 (en.set i (some ⟨own && decide (t = .fr), d⟩)) G2 H1 (σ.set i (some v)) := by
  by_cases h : (own && decide (t = .fr)) = true
  · rw [h]
    rw [Bool.and_eq_true, decide_eq_true_eq] at h
    obtain ⟨_, rfl⟩ := h
    obtain ⟨l, ⟨xs, ds, rfl, rfl, e3, e4⟩, n⟩ := o
    exact ⟨_, r.setOwn e e3 n e4 i⟩
  · rw [Bool.not_eq_true] at h
    rw [h]
    obtain ⟨G2, e2, s2, r2⟩ := o.freeze e ht
    exact ⟨G2, (r.step e2).set r2 i⟩
/-- what is owned is frozen -/
theorem Rel.frz (r : Rel K G0 H0 en G H σ) : ∃ G', Rel K G0 H0 (frz en) G' H σ := by
  classical
  let own : Addr → Prop := fun a => ∃ (i : Nat) (s : Slot), en[i]? = some (some s) ∧ s.own = true ∧ σ[i]? = some (some (V.ref a))
  have hown : ∀ a, own a → H0 a = none ∧ ∃ xs, H a = some (.lst xs) := fun a ⟨i, s, q1, q2, q3⟩ => by
    obtain ⟨w, e1, oo⟩ := r.slot i s q1
    rw [q3] at e1
    cases e1
    unfold SlotOk at oo
    rw [if_pos q2] at oo
    obtain ⟨m', ys, es, p1, p2, p3, p4, p5, _⟩ := oo
    cases p1
    exact ⟨p5, ys, p3⟩
  have sG : Same G (fun a => if own a then H a else G a) := fun a o h => by
    by_cases c : own a
    · show (if own a then H a else G a) = some o
      rw [if_pos c]; exact r.ext.sub a o h
    · show (if own a then H a else G a) = some o
      rw [if_neg c]; exact h
  refine ⟨fun a => if own a then H a else G a, ⟨⟨r.ext.sg.trans sG, r.ext.sh, fun a o h => ?_, fun a o h => ?_, fun a o h n => sG a o (r.ext.nl a o h n)⟩, by unfold Mi.frz; rw [List.length_map]; exact r.len, fun i s q => ?_, fun i j s s' l hij q1 q2 o1 o2 z => ?_⟩⟩
  · by_cases c : own a
    · have h' : (if own a then H a else G a) = some o := h
      rw [if_pos c] at h'; exact h'
    · have h' : (if own a then H a else G a) = some o := h
      rw [if_neg c] at h'; exact r.ext.sub a o h'
  · have c : ¬ own a := fun c => by
      have := (hown a c).1
      rw [h] at this
      cases this
    show (if own a then H a else G a) = G0 a
    rw [if_neg c]
    exact r.ext.old a o h
  · unfold Mi.frz at q
    rw [List.getElem?_map] at q
    cases hq : en[i]? with
    | none => rw [hq] at q; cases q
    | some o =>
      rw [hq] at q
      cases o with
      | none => cases q
      | some s0 =>
        cases q
        obtain ⟨w, e1, oo⟩ := r.slot i s0 hq
        refine ⟨w, e1, ?_⟩
        unfold SlotOk at oo ⊢
        rw [if_neg (show ¬ (false = true) by decide)]
        split at oo
        · rename_i hs
          obtain ⟨l, xs, ds, rfl, p2, p3, p4, p5, p6⟩ := oo
          show Rp K _ _ s0.d
          rw [p2]
          refine .lst ?_ (p6.mono sG)
          show (if own l then H l else G l) = _
          rw [if_pos ⟨i, s0, hq, hs, e1⟩]
          exact p3
        · exact Rp.mono sG oo
  · unfold Mi.frz at q1
    rw [List.getElem?_map] at q1
    cases hq : en[i]? with
    | none => rw [hq] at q1; cases q1
    | some o =>
      rw [hq] at q1
      cases o with
      | none => cases q1
      | some s0 => cases q1; cases o1
theorem Rel.frzIf (r : Rel K G0 H0 en G H σ) (b : Bool) : ∃ G', Rel K G0 H0 (frzIf b en) G' H σ := by
  unfold Mi.frzIf
  cases b with
  | true => rw [if_pos rfl]; exact r.frz
  | false => rw [if_neg (by decide)]; exact ⟨G, r⟩
/-- another base: all that is there now, but for what is owned -/
theorem Rel.rebase (r : Rel K G0 H0 en G H σ) : ∃ H0', Rel K G H0' en G H σ ∧ Ext G0 H0 G H0' := by
  classical
  let own : Addr → Prop := fun a => ∃ (i : Nat) (s : Slot), en[i]? = some (some s) ∧ s.own = true ∧ σ[i]? = some (some (V.ref a))
  have hown : ∀ a, own a → H0 a = none ∧ G a = none := fun a ⟨i, s, q1, q2, q3⟩ => by
    obtain ⟨w, e1, oo⟩ := r.slot i s q1
    rw [q3] at e1
    cases e1
    unfold SlotOk at oo
    rw [if_pos q2] at oo
    obtain ⟨m', ys, es, p1, p2, p3, p4, p5, _⟩ := oo
    cases p1
    exact ⟨p5, p4⟩
  let B : Hp := fun a => if own a then none else H a
  have hB : ∀ a o, B a = some o → ¬ own a ∧ H a = some o := fun a o h => by
    by_cases c : own a
    · have h' : (if own a then none else H a) = some o := h
      rw [if_pos c] at h'; cases h'
    · have h' : (if own a then none else H a) = some o := h
      rw [if_neg c] at h'; exact ⟨c, h'⟩
  have hB2 : ∀ a o, ¬ own a → H a = some o → B a = some o := fun a o c h => by
    show (if own a then none else H a) = some o
    rw [if_neg c]; exact h
  refine ⟨B, ⟨⟨.refl G, fun a o h => (hB a o h).2, r.ext.sub, fun _ _ _ => rfl, r.ext.nl⟩, r.len, fun i s q => ?_, r.dis⟩, ⟨r.ext.sg, fun a o h => ?_, fun a o h => ?_, r.ext.old, fun a o h n => r.ext.nl a o (hB a o h).2 n⟩⟩
  · obtain ⟨w, e1, oo⟩ := r.slot i s q
    refine ⟨w, e1, ?_⟩
    unfold SlotOk at oo ⊢
    split
    · rename_i hs
      rw [if_pos hs] at oo
      obtain ⟨l, xs, ds, rfl, p2, p3, p4, p5, p6⟩ := oo
      refine ⟨l, xs, ds, rfl, p2, p3, p4, ?_, p6⟩
      show (if own l then none else H l) = none
      rw [if_pos ⟨i, s, q, hs, e1⟩]
    · rename_i hs
      rw [if_neg hs] at oo
      exact oo
  · refine hB2 a o (fun c => ?_) (r.ext.sh a o h)
    have := (hown a c).1
    rw [h] at this
    cases this
  · refine hB2 a o (fun c => ?_) (r.ext.sub a o h)
    have := (hown a c).2
    rw [h] at this
    cases this
theorem Rel.unbase {G' H' : Hp} (r : Rel K G' H' en G H σ) (e : Ext G0 H0 G' H') : Rel K G0 H0 en G H σ :=
  ⟨e.trans r.ext, r.len, fun i s q => by
    obtain ⟨w, e1, oo⟩ := r.slot i s q
    refine ⟨w, e1, ?_⟩
    unfold SlotOk at oo ⊢
    split
    · rename_i hs
      rw [if_pos hs] at oo
      obtain ⟨l, xs, ds, rfl, p2, p3, p4, p5, p6⟩ := oo
      exact ⟨l, xs, ds, rfl, p2, p3, p4, e.sh.free p5, p6⟩
    · rename_i hs
      rw [if_neg hs] at oo
      exact oo, r.dis⟩
/-- the list of slot i -/
theorem Rel.owned (r : Rel K G0 H0 en G H σ) {i : Nat} {P : List PyData → Prop} (h : ownW en i P) : ∃ l xs ds, σ[i]? = some (some (.ref l)) ∧ en[i]? = some (some ⟨true, .list ds⟩) ∧ H l = some (.lst xs) ∧ G l = none ∧ H0 l = none ∧ RpAll K G xs ds ∧ P ds := by
  unfold ownW at h
  split at h
  · rename_i ds hq
    obtain ⟨w, e1, oo⟩ := r.slot i _ hq
    unfold SlotOk at oo
    rw [if_pos rfl] at oo
    obtain ⟨l, xs, ds', rfl, p2, p3, p4, p5, p6⟩ := oo
    cases p2
    exact ⟨l, xs, ds, e1, hq, p3, p4, p5, p6, h⟩
  · exact h.elim
/-- .. is changed -/
theorem Rel.wrote (r : Rel K G0 H0 en G H σ) {i : Nat} {l : Addr} {xs ys : List V} {ds es : List PyData} (hσ : σ[i]? = some (some (.ref l))) (he : en[i]? = some (some ⟨true, .list ds⟩)) (hl : H l = some (.lst xs)) (hg : G l = none) (h0 : H0 l = none) (h : RpAll K G ys es) :
    Rel K G0 H0 (en.set i (some ⟨true, .list es⟩)) G (upd H l (.lst ys)) σ := by
  have hi : i < en.length := (List.getElem?_eq_some_iff.mp he).1
  refine ⟨r.ext.wrote hl hg h0, by rw [List.length_set]; exact r.len, fun j s q => ?_, fun j k s s' m hjk e1 e2 o1 o2 z => ?_⟩
  · rcases getElem?_set_some q with ⟨rfl, q, _⟩ | ⟨hj, q⟩
    · cases q
      refine ⟨.ref l, hσ, ?_⟩
      unfold SlotOk
      rw [if_pos rfl]
      exact ⟨l, ys, es, rfl, rfl, upd_same, hg, h0, h⟩
    · obtain ⟨w, e1, o⟩ := r.slot j s q
      refine ⟨w, e1, ?_⟩
      unfold SlotOk at o ⊢
      split
      · rename_i hs
        rw [if_pos hs] at o
        obtain ⟨m, zs, fs, rfl, q2, q3, q4, q5, q6⟩ := o
        have hml : m ≠ l := fun z => by
          subst z
          exact r.dis j i s _ m hj q he hs rfl e1 hσ
        exact ⟨m, zs, fs, rfl, q2, by rw [upd_ne hml]; exact q3, q4, q5, q6⟩
      · rename_i hs
        rw [if_neg hs] at o
        exact o
  · have own : ∀ (j : Nat) (s : Slot), (en.set i (some ⟨true, .list es⟩))[j]? = some (some s) → s.own = true → ∃ s0, en[j]? = some (some s0) ∧ s0.own = true := fun j s q o => by
      rcases getElem?_set_some q with ⟨rfl, q, _⟩ | ⟨hj, q⟩
      · exact ⟨_, he, rfl⟩
      · exact ⟨s, q, o⟩
    obtain ⟨t1, u1, w1⟩ := own j s e1 o1
    obtain ⟨t2, u2, w2⟩ := own k s' e2 o2
    exact r.dis j k t1 t2 m hjk u1 u2 w1 w2 z
end

def dn (K : PySem.W.Frag) (G0 H0 : Hp) (D : Ends) : Dn where
  nx := fun en' => ∀ σ' G' H', Rel K G0 H0 en' G' H' σ' → D.nx σ' H'
  rt := fun d => ∀ v G' H', Ext G0 H0 G' H' → Rp K G' v d → D.rt v H'
  bk := fun en' => ∀ σ' G' H', Rel K G0 H0 en' G' H' σ' → D.bk σ' H'
  ct := fun en' => ∀ σ' G' H', Rel K G0 H0 en' G' H' σ' → D.ct σ' H'
def tS (K : PySem.W.Frag) (w : En → Dn → Prop) : TS := fun D σ H => ∃ G0 H0 en G, Rel K G0 H0 en G H σ ∧ w en (dn K G0 H0 D)
theorem _root_.L2.PS.weak {X : Cx} {s : Stmt} {t t' : TS} (h : PS X s t) (w : ∀ D σ H, t' D σ H → t D σ H) : PS X s t' := ⟨fun pins s σ H D I q => h.run pins s σ H D I (w D σ H q)⟩
theorem _root_.L2.PSs.weak {X : Cx} {s : List Stmt} {t t' : TS} (h : PSs X s t) (w : ∀ D σ H, t' D σ H → t D σ H) : PSs X s t' := ⟨fun pins s σ H D I q => h.run pins s σ H D I (w D σ H q)⟩
abbrev MS (w : En → Dn → Prop) : Prop := ∀ en (D D' : Dn), D.Le D' → w en D → w en D'

section
variable {X : Cx} {N : List Str} {sc : Scope} {fn : List (Str × Nat)} {cn : List Str} {F : Nat → Spc} {C : Nat → PyData} {k : Nat}
variable {e : Expr} {pos : Pos} {st : Stmt} {sts : List Stmt}
theorem ss_nil : PSs X [] (tS X.K (wSs F C .nil)) := pss_nil.weak fun D σ H q => by
  obtain ⟨G0, H0, en, G, r, w⟩ := q
  rw [wSs] at w
  exact w _ _ _ r
theorem ss_cons {s' : S} {ss' : Ss} (ms : MS (wS F C s')) (h1 : PS X st (tS X.K (wS F C s'))) (h2 : PSs X sts (tS X.K (wSs F C ss'))) : PSs X (st :: sts) (tS X.K (wSs F C (.cons s' ss'))) := (pss_cons h1 h2).weak fun D σ H q => by
  obtain ⟨G0, H0, en, G, r, w⟩ := q
  rw [wSs] at w
  refine ⟨G0, H0, en, G, r, ms en { dn X.K G0 H0 D with nx := fun en' => wSs F C ss' en' (dn X.K G0 H0 D) } _ ⟨fun en' q σ' G' H' r' => ⟨G0, H0, en', G', r', q⟩, fun _ q => q, fun _ q => q, fun _ q => q⟩ w⟩
/-- the store behind a value -/
theorem set_sound {K : PySem.W.Frag} {fz own : Bool} {i : Nat} {e' : E} {D : Ends} {σ : L2.St} {H : Hp} (me : MW (wE F C e')) (q : tS K (wS F C (.set fz own i e')) D σ H) : tW K (wE F C e') σ H fun x H1 => D.nx (σ.set i (some x)) H1 := by
  obtain ⟨G0, H0, en, G, r, w⟩ := q
  rw [wS] at w
  obtain ⟨G', r'⟩ := r.frzIf fz
  refine tW_of me r' w fun d t v G1 H1 p e o => ?_
  obtain ⟨G2, r2⟩ := store_sound r' e o p.1 own i
  exact p.2 _ _ _ r2
theorem ss_set {fz own : Bool} {i : Nat} {x : Str} {p : Pos} {e' : E} (hN : X.N.Nodup) (hi : X.N[i]? = some x) (hx : Loc X.env.scope x) (me : MW (wE F C e')) (he : PE X e (tW X.K (wE F C e'))) (hs : swapsWith e (some (.Name x p)) pos.line X.env = pure false) (hf : X.fn x = true ∨ X.env.scope.names.lookup x = some .local) :
    PS X (.Assign [.Name x p] e pos) (tS X.K (wS F C (.set fz own i e'))) := (ps_set hN hi hx he hs hf).weak fun D σ H q => set_sound me q
theorem ss_unp {fz : Bool} {is : List Nat} {tg : Expr} {e' : E} (me : MW (wE F C e')) (he : PE X e (tW X.K (wE F C e'))) (hg : PG X tg (gT X.K (.many is))) (hs : swapsWithSole [tg] e pos.line X.env = pure false) (hw : swappedStores [tg] e X.env = pure none)
    (h1 : (assignEach [tg] X.env).map (·.2) = [assign tg X.env]) : PS X (.Assign [tg] e pos) (tS X.K (wS F C (.unp fz is e'))) := (ps_asg he hg hs hw h1).weak fun D σ H q => by
  obtain ⟨G0, H0, en, G, r, w⟩ := q
  rw [wS] at w
  obtain ⟨G', r'⟩ := r.frzIf fz
  refine tW_of me r' w fun d t v G1 H1 p e o => ?_
  -- a tuple lies frozen
  by_cases hl : ∃ ds, d = .list ds
  · obtain ⟨ds, rfl⟩ := hl
    obtain ⟨l, xs, rfl, h1, h2⟩ := o.lst e.sub
    unfold tgW at p
    refine .inr ⟨_, _, rfl, SqL.of h1, by rw [h2.length]; exact p.1, ?_⟩
    exact setM_sound p.1 h2 (r'.step e) fun σ' r2 _ => p.2 _ _ _ r2
  have hr : Rp X.K G1 v d := by
    cases t with
    | fz => exact o
    | bo => obtain ⟨l, xs, ds, rfl, rfl, _⟩ := o; exact absurd ⟨_, rfl⟩ hl
    | fr => obtain ⟨l, ⟨xs, ds, rfl, rfl, _⟩, _⟩ := o; exact absurd ⟨_, rfl⟩ hl
  exact tg_sound p hr (r'.step e) fun en' σ' q r2 _ => q _ _ _ r2
theorem setM2 {K : PySem.W.Frag} {G0 H0 G H : Hp} : ∀ {is : List Nat} {ds : List PyData} {xs : List V} {en : En} {σ : L2.St}, Rel K G0 H0 en G H σ → RpAll K G xs ds → ds.length = is.length →
    Rel K G0 H0 (setM en is ds) G H ((is.zip xs).foldl (fun σ p => σ.set p.1 (some p.2)) σ)
  | [], [], _, _, _, r, h, _ => by cases h; exact r
  | i :: is, d :: ds, _, _, _, r, h, hl => by
    cases h with
    | cons h1 h2 => exact setM2 (is := is) (r.set h1 i) h2 (by simpa using hl)
  | [], _ :: _, _, _, _, _, _, hl => by cases hl
  | _ :: _, [], _, _, _, _, _, hl => by cases hl
theorem ss_par2 {i j : Nat} {x y : Str} {a b : Expr} {px py pt : Pos} {kt k2 pt2} {es' : Es} (hc : X.calm = true) (hN : X.N.Nodup) (hi : X.N[i]? = some x) (hj : X.N[j]? = some y) (hij : i ≠ j)
    (hx : X.env.scope.names.lookup x = some .local) (hy : X.env.scope.names.lookup y = some .local) (me : MWs (wEs F C es')) (ha : PA X [a, b] (tWs X.K (wEs F C es')))
    (hw : swappedStores [.Tuple [.Name x px, .Name y py] kt pt] (.Tuple [a, b] k2 pt2) X.env = pure (some [x, y])) :
    PS X (.Assign [.Tuple [.Name x px, .Name y py] kt pt] (.Tuple [a, b] k2 pt2) pos) (tS X.K (wS F C (.par [i, j] es'))) := (ps_par hc hN hi hj hij hx hy ha hw).weak fun D σ H q => by
  obtain ⟨G0, H0, en, G, r, w⟩ := q
  rw [wS] at w
  refine tWs_of me r w fun ps vs G1 H1 p e o => ?_
  obtain ⟨p1, p2, p3⟩ := p
  obtain ⟨G2, e2, s2, r2⟩ := o.freeze e (anyBo_all p1)
  have hl := o.length
  rw [p2] at hl
  obtain ⟨v, w, rfl⟩ : ∃ v w, vs = [v, w] := by
    match vs, hl with
    | [v, w], _ => exact ⟨v, w, rfl⟩
  exact ⟨v, w, rfl, p3 _ _ _ (setM2 (is := [i, j]) (r.step e2) r2 (by rw [List.length_map]; exact p2))⟩
theorem ss_par3 {i j l : Nat} {x y z : Str} {a b c : Expr} {px py pz pt : Pos} {kt k2 pt2} {es' : Es} (hc : X.calm = true) (hN : X.N.Nodup) (hi : X.N[i]? = some x) (hj : X.N[j]? = some y) (hl : X.N[l]? = some z) (hij : i ≠ j) (hil : i ≠ l) (hjl : j ≠ l)
    (hx : X.env.scope.names.lookup x = some .local) (hy : X.env.scope.names.lookup y = some .local) (hz : X.env.scope.names.lookup z = some .local) (me : MWs (wEs F C es')) (ha : PA X [a, b, c] (tWs X.K (wEs F C es')))
    (hw : swappedStores [.Tuple [.Name x px, .Name y py, .Name z pz] kt pt] (.Tuple [a, b, c] k2 pt2) X.env = pure (some [x, y, z])) :
    PS X (.Assign [.Tuple [.Name x px, .Name y py, .Name z pz] kt pt] (.Tuple [a, b, c] k2 pt2) pos) (tS X.K (wS F C (.par [i, j, l] es'))) := (ps_par3 hc hN hi hj hl hij hil hjl hx hy hz ha hw).weak fun D σ H q => by
  obtain ⟨G0, H0, en, G, r, w⟩ := q
  rw [wS] at w
  refine tWs_of me r w fun ps vs G1 H1 p e o => ?_
  obtain ⟨p1, p2, p3⟩ := p
  obtain ⟨G2, e2, s2, r2⟩ := o.freeze e (anyBo_all p1)
  have hl := o.length
  rw [p2] at hl
  obtain ⟨v, w, u, rfl⟩ : ∃ v w u, vs = [v, w, u] := by
    match vs, hl with
    | [v, w, u], _ => exact ⟨v, w, u, rfl⟩
  exact ⟨v, w, u, rfl, p3 _ _ _ (setM2 (is := [i, j, l]) (r.step e2) r2 (by rw [List.length_map]; exact p2))⟩
/-! ### methods of lists -/
theorem var_read {K : PySem.W.Frag} {σ : L2.St} {H : Hp} {i : Nat} {v : V} {Q : VK} (h : σ[i]? = some (some v)) (q : Q v H) : tVar i σ H Q := ⟨v, h, q⟩
theorem ss_app {i : Nat} {x : Str} {e' : E} {p ap cp : Pos} (hN : X.N[i]? = some x) (hv : Vis X.env.scope x) (hd : (x == ("__debug__" : Str)) = false) (hcd : (x == ("__classdict__" : Str)) = false) (me : MW (wE F C e')) (he : PE X e (tW X.K (wE F C e'))) (hs1 : starEach [e] X.env = [(false, eval e X.env)]) (hline : (ap.endLine == cp.line) = true)
    (hfew : ((backTo cp (starEach [e] X.env)).all (fun x => !x.1) && (backToKw cp (keywordEach [] X.env)).all (fun x => x.1.isSome) && decide (([e] : List Expr).length + ([] : List Keyword).length + (if ([] : List Keyword).isEmpty then 0 else 1) < 30)) = true) :
    PS X (.Expr (.Call (.Attribute (.Name x p) "append" ap) [e] [] cp) pos) (tS X.K (wS F C (.app i e'))) := by
  have pa : PA X [e] (tCons (tW X.K (wE F C e')) tNil) := pa_cons he pa_nil (by rw [hs1]; rfl)
  refine (ps_expr (pe_bm PySem.F.plainAttrs_list PySem.F.slot_list_append PySem.F.type_list_append mt_append (pe_var hN hv hd hcd) pa (by rfl) hfew hline (by rw [hs1]; rfl) (by rfl)) (by rfl)).weak fun D σ H q => ?_
  obtain ⟨G0, H0, en, G, r, w⟩ := q
  rw [wS] at w
  obtain ⟨l, xs, ds, hσ, hen, hl, hg, h0, ra, w⟩ := r.owned w
  refine ⟨.ref l, hσ, .inl ⟨rfl, _, SqL.of hl⟩, ?_⟩
  refine tW_of me r w fun d t v G1 H1 p e o => ?_
  obtain ⟨p1, p2, p3⟩ := p
  obtain ⟨G2, e2, s2, r2⟩ := o.freeze e p1
  have hl1 := e2.sh _ _ hl
  refine ⟨l, xs, v, rfl, rfl, hl1, by rw [ra.length]; exact size_lt p2, ?_⟩
  exact p3 _ _ _ ((r.step e2).wrote hσ hen hl1 ((e2.old _ _ hl).trans hg) h0 ((ra.mono e2.sg).append (.cons r2 .nil)))
theorem ss_ext {i : Nat} {x : Str} {e' : E} {p ap cp : Pos} (hN : X.N[i]? = some x) (hv : Vis X.env.scope x) (hd : (x == ("__debug__" : Str)) = false) (hcd : (x == ("__classdict__" : Str)) = false) (me : MW (wE F C e')) (he : PE X e (tW X.K (wE F C e'))) (hs1 : starEach [e] X.env = [(false, eval e X.env)]) (hline : (ap.endLine == cp.line) = true)
    (hfew : ((backTo cp (starEach [e] X.env)).all (fun x => !x.1) && (backToKw cp (keywordEach [] X.env)).all (fun x => x.1.isSome) && decide (([e] : List Expr).length + ([] : List Keyword).length + (if ([] : List Keyword).isEmpty then 0 else 1) < 30)) = true) :
    PS X (.Expr (.Call (.Attribute (.Name x p) "extend" ap) [e] [] cp) pos) (tS X.K (wS F C (.ext i e'))) := by
  have pa : PA X [e] (tCons (tW X.K (wE F C e')) tNil) := pa_cons he pa_nil (by rw [hs1]; rfl)
  refine (ps_expr (pe_bm PySem.F.plainAttrs_list PySem.F.slot_list_extend PySem.F.type_list_extend mt_extend (pe_var hN hv hd hcd) pa (by rfl) hfew hline (by rw [hs1]; rfl) (by rfl)) (by rfl)).weak fun D σ H q => ?_
  obtain ⟨G0, H0, en, G, r, w⟩ := q
  rw [wS] at w
  obtain ⟨l, xs, ds, hσ, hen, hl, hg, h0, ra, w⟩ := r.owned w
  refine ⟨.ref l, hσ, .inl ⟨rfl, _, SqL.of hl⟩, ?_⟩
  refine tW_of me r w fun d t v G1 H1 p e o => ?_
  cases d with
  | list es =>
    obtain ⟨p2, p3⟩ := p
    obtain ⟨m, ys, rfl, h1, h2⟩ := o.lst e.sub
    have hl1 := e.sh _ _ hl
    refine ⟨l, m, xs, ys, rfl, rfl, hl1, h1, by rw [ra.length, h2.length]; exact size_le p2, ?_⟩
    exact p3 _ _ _ ((r.step e).wrote hσ hen hl1 ((e.old _ _ hl).trans hg) h0 ((ra.mono e.sg).append h2))
  | _ => exact p.elim
theorem ss_ins {i : Nat} {x : Str} {a : Expr} {a' e' : E} {p ap cp : Pos} (hN : X.N[i]? = some x) (hv : Vis X.env.scope x) (hd : (x == ("__debug__" : Str)) = false) (hcd : (x == ("__classdict__" : Str)) = false) (ma : MW (wE F C a')) (me : MW (wE F C e')) (ha : PE X a (tW X.K (wE F C a'))) (he : PE X e (tW X.K (wE F C e')))
    (hs1 : starEach [a, e] X.env = (false, eval a X.env) :: starEach [e] X.env) (hs2 : starEach [e] X.env = [(false, eval e X.env)]) (hline : (ap.endLine == cp.line) = true)
    (hfew : ((backTo cp (starEach [a, e] X.env)).all (fun x => !x.1) && (backToKw cp (keywordEach [] X.env)).all (fun x => x.1.isSome) && decide (([a, e] : List Expr).length + ([] : List Keyword).length + (if ([] : List Keyword).isEmpty then 0 else 1) < 30)) = true) (hpl : (backTo cp (starEach [e] X.env)).any (·.1) = false) :
    PS X (.Expr (.Call (.Attribute (.Name x p) "insert" ap) [a, e] [] cp) pos) (tS X.K (wS F C (.ins i a' e'))) := by
  have pa : PA X [a, e] (tCons (tW X.K (wE F C a')) (tCons (tW X.K (wE F C e')) tNil)) := pa_cons ha (pa_cons he pa_nil (by rw [hs2]; rfl)) hs1
  refine (ps_expr (pe_bm PySem.F.plainAttrs_list PySem.F.slot_list_insert PySem.F.type_list_insert mt_insert (pe_var hN hv hd hcd) pa (by rfl) hfew hline hs1 hpl) (by rfl)).weak fun D σ H q => ?_
  obtain ⟨G0, H0, en, G, r, w⟩ := q
  rw [wS] at w
  obtain ⟨l, xs, ds, hσ, hen, hl, hg, h0, ra, w⟩ := r.owned w
  refine ⟨.ref l, hσ, .inl ⟨rfl, _, SqL.of hl⟩, ?_⟩
  refine tW_of ma r w fun x _ v0 G1 H1 p e1 o1 => tW_of me (r.step e1) p fun d t v G2 H2 p e2 o2 => ?_
  obtain ⟨p1, p2, p3⟩ := p
  unfold insW at p3
  split at p3
  · cases o1.int e1.sub
    obtain ⟨p3, p4, p5⟩ := p3
    obtain ⟨G3, e3, s3, r3⟩ := o2.freeze e2 p1
    have e := e1.trans e3
    have hl1 := e.sh _ _ hl
    refine ⟨l, xs, _, v, rfl, rfl, hl1, by rw [ra.length]; exact size_lt p2, p3, p4, ?_⟩
    have ra' := ra.mono e.sg
    exact p5 _ _ _ ((r.step e).wrote hσ hen hl1 ((e.old _ _ hl).trans hg) h0 (((ra'.take _).append (.cons r3 .nil)).append (ra'.drop _)))
  · exact p3.elim
theorem ixN_eq {K : PySem.W.Frag} {G : Hp} {xs : List V} {ds : List PyData} (r : RpAll K G xs ds) {k : Int} {j : Nat} (h : ixN ds.length k = some j) : ixN xs.length k = some j := by rw [r.length]; exact h
theorem ss_seti {i : Nat} {x : Str} {a : Expr} {a' e' : E} {p tp : Pos} (hN : X.N[i]? = some x) (hv : Vis X.env.scope x) (hd : (x == ("__debug__" : Str)) = false) (hcd : (x == ("__classdict__" : Str)) = false) (ma : MW (wE F C a')) (me : MW (wE F C e')) (ha : PE X a (tW X.K (wE F C a'))) (he : PE X e (tW X.K (wE F C e')))
    (hs : swapsWithSole [.Subscript (.Name x p) a tp] e pos.line X.env = pure false) (hw : swappedStores [.Subscript (.Name x p) a tp] e X.env = pure none) (h1 : (assignEach [.Subscript (.Name x p) a tp] X.env).map (·.2) = [assign (.Subscript (.Name x p) a tp) X.env])
    (hh : ∀ v, assign (.Subscript (.Name x p) a tp) X.env v = (do
      let ov ← holding [v] (eval (.Name x p) X.env)
      let iv ← holding [v, ov] (eval a X.env)
      standAt tp
      holding [v, ov, iv] (setItem ov iv v)
      release [v, ov, iv] [])) :
    PS X (.Assign [.Subscript (.Name x p) a tp] e pos) (tS X.K (wS F C (.seti i a' e'))) := by
  refine (ps_asg he (pg_sub (pe_var hN hv hd hcd) ha set_list hh) hs hw h1).weak fun D σ H q => ?_
  obtain ⟨G0, H0, en, G, r, w⟩ := q
  rw [wS] at w
  obtain ⟨l, xs, ds, hσ, hen, hl, hg, h0, ra, w⟩ := r.owned w
  refine tW_of me r w fun d t v G1 H1 p e1 o1 => ?_
  refine ⟨.ref l, hσ, ?_⟩
  refine tW_of ma (r.step e1) p fun x _ v0 G2 H2 p e2 o2 => ?_
  obtain ⟨p1, p3⟩ := p
  unfold setiW at p3
  split at p3
  · cases o2.int e2.sub
    obtain ⟨j, p4, p5⟩ := p3
    obtain ⟨G3, e3, s3, r3⟩ := (o1.mono e2.sg e2.sh).freeze (e1.trans e2) p1
    have hl1 := e3.sh _ _ hl
    have ra' := ra.mono e3.sg
    exact ⟨l, xs, _, j, rfl, rfl, hl1, ixN_eq ra p4, p5 _ _ _ ((r.step e3).wrote hσ hen hl1 ((e3.old _ _ hl).trans hg) h0 (ra'.set r3 j))⟩
  · exact p3.elim
theorem ss_pop {i : Nat} {x : Str} {t : Tt} {tg : Expr} {p ap cp : Pos} (hN : X.N[i]? = some x) (hv : Vis X.env.scope x) (hd : (x == ("__debug__" : Str)) = false) (hcd : (x == ("__classdict__" : Str)) = false) (hg : PG X tg (gT X.K t)) (hline : (ap.endLine == cp.line) = true)
    (hs : swapsWithSole [tg] (.Call (.Attribute (.Name x p) "pop" ap) [] [] cp) pos.line X.env = pure false) (hw : swappedStores [tg] (.Call (.Attribute (.Name x p) "pop" ap) [] [] cp) X.env = pure none) (h1 : (assignEach [tg] X.env).map (·.2) = [assign tg X.env]) :
    PS X (.Assign [tg] (.Call (.Attribute (.Name x p) "pop" ap) [] [] cp) pos) (tS X.K (wS F C (.pop t i))) := by
  refine (ps_asg (pe_bm0 PySem.F.plainAttrs_list PySem.F.slot_list_pop PySem.F.type_list_pop mt_pop (pe_var hN hv hd hcd) (by rfl) hline) hg hs hw h1).weak fun D σ H q => ?_
  obtain ⟨G0, H0, en, G, r, w⟩ := q
  rw [wS] at w
  obtain ⟨l, xs, ds, hσ, hen, hl, hg, h0, ra, d, hd, w⟩ := r.owned w
  rw [← ra.length] at hd
  obtain ⟨y, hy, ry⟩ := ra.get hd
  refine ⟨.ref l, hσ, .inl ⟨rfl, _, SqL.of hl⟩, l, xs, y, rfl, rfl, hl, hy, ?_⟩
  have rd : RpAll X.K G xs.dropLast ds.dropLast := by
    rw [List.dropLast_eq_take, List.dropLast_eq_take, ra.length]
    exact ra.take _
  exact tg_sound w ry (r.wrote hσ hen hl hg h0 rd) fun en' σ' q r2 _ => q _ _ _ r2
/-! ### ways -/
theorem ss_if {c : Expr} {a b : List Stmt} {c' : E} {a' b' : Ss} (mc : MW (wE F C c')) (hc : PT X c (tT X.K (wE F C c'))) (ha : PSs X a (tS X.K (wSs F C a'))) (hb : PSs X b (tS X.K (wSs F C b'))) : PS X (.If c a b pos) (tS X.K (wS F C (.ifs c' a' b'))) := (ps_if hc ha hb).weak fun D σ H q => by
  obtain ⟨G0, H0, en, G, r, w⟩ := q
  rw [wS] at w
  refine tT_of mc r w fun k G1 H1 p e => ?_
  by_cases hk : k = true
  · rw [if_pos hk] at p ⊢
    exact ⟨G0, H0, en, G1, r.step e, p⟩
  · rw [if_neg hk] at p ⊢
    exact ⟨G0, H0, en, G1, r.step e, p⟩
theorem ss_while {c : Expr} {b : List Stmt} {c' : E} {b' : Ss} (hp : PassesOwn (model X.prog X.w) X.A X.env X.xe) (mc : MW (wE F C c')) (mb : MS (wSs F C b')) (hc : PT X c (tT X.K (wE F C c'))) (hb : PSs X b (tS X.K (wSs F C b'))) : PS X (.While c b [] pos) (tS X.K (wS F C (.whl c' b'))) := (ps_while hp hc hb).weak fun D σ H q => by
  obtain ⟨G0, H0, en, G, r, w⟩ := q
  rw [wS] at w
  obtain ⟨n, w⟩ := w
  refine ⟨fun m σ H => ∃ en G, Rel X.K G0 H0 en G H σ ∧ whileW (fun en Q => wE F C c' en fun d _ => boolW d Q) (wSs F C b') (dn X.K G0 H0 D) m en, ⟨n, en, G, r, w⟩, ?_⟩
  rintro m σ H ⟨en, G, r, w⟩
  cases m with
  | zero => exact w.elim
  | succ m =>
    refine tT_of mc r w fun k G1 H1 p e => ?_
    by_cases hk : k = true
    · rw [if_pos hk] at p ⊢
      refine ⟨fun σ' H' => ∃ en G, Rel X.K G0 H0 en G H' σ' ∧ whileW (fun en Q => wE F C c' en fun d _ => boolW d Q) (wSs F C b') (dn X.K G0 H0 D) m en, fun σ' H' hn => ⟨m, Nat.lt_succ_self m, hn⟩, G0, H0, en, G1, r.step e, ?_⟩
      exact mb en { nx := whileW (fun en Q => wE F C c' en fun d _ => boolW d Q) (wSs F C b') (dn X.K G0 H0 D) m, ct := whileW (fun en Q => wE F C c' en fun d _ => boolW d Q) (wSs F C b') (dn X.K G0 H0 D) m, bk := (dn X.K G0 H0 D).nx, rt := (dn X.K G0 H0 D).rt } _ ⟨fun en' q σ' G' H' r' => ⟨en', G', r', q⟩, fun _ q => q, fun _ q => q, fun en' q σ' G' H' r' => ⟨en', G', r', q⟩⟩ p
    · rw [if_neg hk] at p ⊢
      exact p _ _ _ (r.step e)
theorem ss_for {tg it : Expr} {b : List Stmt} {fz : Bool} {t : Tt} {it' : It} {b' : Ss} (cc : X.calm = true) (hp : PassesOwn (model X.prog X.w) X.A X.env X.xe) (mF : ∀ j, MonoS (F j)) (hi : PI X tg it (tI X.K (wIt F C it'))) (hg : PG X tg (gT X.K t)) (hb : PSs X b (tS X.K (wSs F C b'))) (hs : ∀ x, foldedSetIterable it X.env x = pure x) :
    PS X (.For tg it b [] pos) (tS X.K (wS F C (.for_ fz t it' b'))) := (ps_for hp cc hi hg hb hs).weak fun D σ H q => by
  obtain ⟨G0, H0, en, G, r, w⟩ := q
  rw [wS] at w
  obtain ⟨G', r'⟩ := r.frzIf fz
  generalize frzIf fz en = en0 at w r'
  refine ⟨G0, H0, en0, G', r', wIt_mono mF it' en0 _ _ (fun ds tt q J xs G1 H1 e rp wk => ?_) w⟩
  obtain ⟨q1, q2⟩ := q
  obtain ⟨S, wk, _, s2⟩ := wk
  have s2 := s2 q1
  have hlen := rp.length
  let f : PyData → En → Dn → Prop := fun d en' D' => tgW t d en' fun en'' => wSs F C b' en'' D'
  have r1 := r'.step e
  have q2 : forW f ds en0 (dn X.K G0 H0 D) := q2
  -- the list stays frozen: another base carries it through the loop
  obtain ⟨B, rb, eb⟩ := r1.rebase
  refine ⟨fun i m σ Hc => m = xs.length - i ∧ i ≤ xs.length ∧ ∃ en Gc, Rel X.K G1 B en Gc Hc σ ∧ forW f (ds.drop i) en (dn X.K G0 H0 D), ⟨xs.length, by simp, Nat.zero_le _, en0, G1, rb, by simpa using q2⟩, ?_⟩
  rintro i m σ Hc ⟨rfl, hi, en, Gc, rc, qc⟩
  have sc := rc.ext.sg
  have hS : S Hc := s2 _ (sc.trans rc.ext.sub)
  by_cases hlt : i < xs.length
  · have hd : i < ds.length := by omega
    refine .inr ⟨wk.go _ _ hS hlt, fun σ' Hn => ∃ en Gc, Rel X.K G1 B en Gc Hn σ' ∧ forW f (ds.drop (i + 1)) en (dn X.K G0 H0 D), fun σ' H' hn => ⟨xs.length - (i + 1), by omega, rfl, hlt, hn⟩, fun x H' hy => ?_⟩
    obtain ⟨rfl, hx⟩ := wk.yld _ _ _ _ hS hlt hy
    obtain ⟨x', hx', rx⟩ := rp.get (List.getElem?_eq_getElem hd)
    rw [hx] at hx'
    cases hx'
    rw [List.drop_eq_getElem_cons hd] at qc
    have qc : tgW t ds[i] en fun en'' => wSs F C b' en'' { nx := fun en' => forW f (ds.drop (i + 1)) en' (dn X.K G0 H0 D), ct := fun en' => forW f (ds.drop (i + 1)) en' (dn X.K G0 H0 D), bk := (dn X.K G0 H0 D).nx, rt := (dn X.K G0 H0 D).rt } := qc
    refine tg_sound qc (rx.mono sc) rc fun en' σ' p r2 _ => ⟨G1, B, en', Gc, r2, wSs_mono mF b' en' { nx := fun en' => forW f (ds.drop (i + 1)) en' (dn X.K G0 H0 D), ct := fun en' => forW f (ds.drop (i + 1)) en' (dn X.K G0 H0 D), bk := (dn X.K G0 H0 D).nx, rt := (dn X.K G0 H0 D).rt } _ ⟨fun en2 q σ2 G2 H2 r3 => ⟨en2, G2, r3, q⟩, fun d q v G2 H2 e2 rv => q v G2 H2 (eb.trans e2) rv, fun en2 q σ2 G2 H2 r3 => q σ2 G2 H2 (r3.unbase eb), fun en2 q σ2 G2 H2 r3 => ⟨en2, G2, r3, q⟩⟩ p⟩
  · have ei : i = xs.length := by omega
    subst ei
    refine .inl ⟨wk.stop _ _ hS (Nat.le_refl _), ?_⟩
    rw [show ds.drop xs.length = [] by rw [hlen]; exact List.drop_length] at qc
    exact qc _ _ _ (rc.unbase eb)
theorem ss_ret {e' : E} (me : MW (wE F C e')) (he : PE X e (tW X.K (wE F C e'))) : PS X (.Return (some e) pos) (tS X.K (wS F C (.ret e'))) := (ps_ret he).weak fun D σ H q => by
  obtain ⟨G0, H0, en, G, r, w⟩ := q
  rw [wS] at w
  obtain ⟨G', r'⟩ := r.frz
  refine tW_of me r' w fun d t v G1 H1 p e o => ?_
  obtain ⟨G2, e2, s2, r2⟩ := o.freeze e p.1
  exact p.2 _ _ _ (r'.ext.trans e2) r2
theorem ss_retn : PS X (.Return none pos) (tS X.K (wS F C .retn)) := ps_retN.weak fun D σ H q => by
  obtain ⟨G0, H0, en, G, r, w⟩ := q
  rw [wS] at w
  exact w _ _ _ r.ext (Rp.non)
theorem ss_drop {e' : E} (me : MW (wE F C e')) (he : PE X e (tW X.K (wE F C e'))) (hs : swapsWith e none pos.line X.env = pure false) : PS X (.Expr e pos) (tS X.K (wS F C (.drop e'))) := (ps_expr he hs).weak fun D σ H q => by
  obtain ⟨G0, H0, en, G, r, w⟩ := q
  rw [wS] at w
  exact tW_of me r w fun d t v G1 H1 p e o => p _ _ _ (r.step e)
theorem ss_pass : PS X (.Pass pos) (tS X.K (wS F C .pass)) := ps_pass.weak fun D σ H q => by
  obtain ⟨G0, H0, en, G, r, w⟩ := q
  rw [wS] at w
  exact w _ _ _ r
theorem ss_brk : PS X (.Break pos) (tS X.K (wS F C .brk)) := ps_break.weak fun D σ H q => by
  obtain ⟨G0, H0, en, G, r, w⟩ := q
  rw [wS] at w
  exact w _ _ _ r
theorem ss_cont : PS X (.Continue pos) (tS X.K (wS F C .cont)) := ps_continue.weak fun D σ H q => by
  obtain ⟨G0, H0, en, G, r, w⟩ := q
  rw [wS] at w
  exact w _ _ _ r
theorem ss_nev : PS X st (tS X.K (wS F C .nev)) := ps_never.weak fun D σ H q => by
  obtain ⟨G0, H0, en, G, r, w⟩ := q
  rw [wS] at w
  exact w
end
end Mi

set_option Elab.async false
set_option linter.all false
set_option maxRecDepth 100000
set_option maxHeartbeats 4000000
/-! From the text's tree to the mini language: expressions. -/
namespace Mi
open PySem PySem.Spec PyProof.Rows L2

structure Cs where
  N : List Str
  fn : List (Str × Nat)
  cn : List Str
  ow : List Nat

def ix (N : List Str) (x : Str) : Option Nat := (N.findIdx? (· == x)).bind fun i => if N[i]? = some x then some i else none
theorem ix_some {N : List Str} {x : Str} {i : Nat} (h : ix N x = some i) : N[i]? = some x := by
  unfold ix at h
  cases q : N.findIdx? (· == x) with
  | none => rw [q] at h; cases h
  | some j =>
    rw [q] at h
    have h' : (if N[j]? = some x then some j else none) = some i := h
    split at h'
    · cases h'; assumption
    · cases h'
def visB (sc : Scope) (x : Str) : Bool := match sc.names.lookup x with
  | some .local => true
  | some .cell => true
  | some .free => true
  | _ => false
theorem visB_ok {sc : Scope} {x : Str} (h : visB sc x = true) : Vis sc x := by
  unfold visB at h
  unfold Vis
  split at h <;> first | (rename_i e; exact .inl e) | (rename_i e; exact .inr (.inl e)) | (rename_i e; exact .inr (.inr e)) | cases h
def locB (sc : Scope) (x : Str) : Bool := match sc.names.lookup x with
  | some .local => true
  | some .cell => true
  | _ => false
theorem locB_ok {sc : Scope} {x : Str} (h : locB sc x = true) : L2.Loc sc x := by
  unfold locB at h
  unfold L2.Loc
  split at h <;> first | (rename_i e; exact .inl e) | (rename_i e; exact .inr e) | cases h
theorem loc_vis {sc : Scope} {x : Str} (h : L2.Loc sc x) : Vis sc x := h.elim .inl fun z => .inr (.inl z)
def glB (sc : Scope) (x : Str) : Bool := match sc.names.lookup x with
  | some .globalImplicit => true
  | _ => false
theorem glB_ok {X : Cx} {x : Str} (h : glB X.env.scope x = true) : Gl X x := by
  unfold glB at h
  split at h
  · assumption
  · cases h
def okName (x : Str) : Bool := !(x == ("__debug__" : Str)) && !(x == ("__classdict__" : Str)) && decide (x ≠ "__name__")
theorem okName_ok {x : Str} (h : okName x = true) : (x == ("__debug__" : Str)) = false ∧ (x == ("__classdict__" : Str)) = false ∧ x ≠ "__name__" := by
  unfold okName at h
  rw [Bool.and_eq_true, Bool.and_eq_true] at h
  exact ⟨by simpa using h.1.1, by simpa using h.1.2, of_decide_eq_true h.2⟩
def bopOf : Operator → Option BOp
  | .Add => some .add | .Sub => some .sub | .Mult => some .mul | .FloorDiv => some .fdiv | .Mod => some .mod | .Pow => some .pow | .LShift => some .shl | .RShift => some .shr | .BitAnd => some .band | .BitOr => some .bor
  | _ => none
theorem bopOf_ok {o : Operator} {b : BOp} (h : bopOf o = some b) : o = opOf b := by cases o <;> cases h <;> rfl
def copOf : CmpOp → Option COp
  | .Lt => some .lt | .LtE => some .le | .Gt => some .gt | .GtE => some .ge | .Eq => some .eq | .NotEq => some .ne | .Is => some .is | .IsNot => some .isnot | .In => some .isin | .NotIn => some .notin
theorem copOf_ok {o : CmpOp} {b : COp} (h : copOf o = some b) : o = cOf b := by cases o <;> cases h <;> rfl
/-- the built-ins, by their names -/
def biOf (x : Str) : Option Bi :=
  if x = "len" then some .len else if x = "abs" then some .abs else if x = "int" then some .int else if x = "max" then some .max else if x = "min" then some .min
  else if x = "sum" then some .sum else if x = "tuple" then some .tuple else if x = "list" then some .list else if x = "repr" then some .repr else none
theorem biOf_ok {x : Str} {b : Bi} (h : biOf x = some b) : x ∈ (["len", "abs", "int", "max", "min", "sum", "tuple", "list", "repr", "isinstance", "range", "reversed", "sorted", "set", "str", "bool"] : List Str) ∧ bootBuiltins x = some (biV b) := by
  unfold biOf at h
  repeat' split at h
  all_goals first
    | (cases h; subst_vars; exact ⟨by simp, by decide +kernel⟩)
    | cases h

def tyOf (x : Str) : Option Ty := if x = "int" then some .int else if x = "bool" then some .bool else if x = "str" then some .str else if x = "tuple" then some .tuple else if x = "list" then some .list else none
theorem tyOf_ok {x : Str} {b : Ty} (h : tyOf x = some b) : x ∈ (["len", "abs", "int", "max", "min", "sum", "tuple", "list", "repr", "isinstance", "range", "reversed", "sorted", "set", "str", "bool"] : List Str) ∧ bootBuiltins x = some (tyV b) := by
  unfold tyOf at h
  repeat' split at h
  all_goals first
    | (cases h; subst_vars; exact ⟨by simp, by decide +kernel⟩)
    | cases h
def Es.len : Es → Nat
  | .nil => 0
  | .cons _ es => es.len + 1
theorem wEs_len {F : Nat → Spc} {C : Nat → PyData} (mF : ∀ j, MonoS (F j)) : ∀ (es : Es) (en : En) (Q : List (PyData × Tg) → Prop), wEs F C es en Q → wEs F C es en fun ps => Q ps ∧ ps.length = es.len
  | .nil, en, Q, w => by rw [wEs] at w ⊢; exact ⟨w, rfl⟩
  | .cons e es, en, Q, w => by
    rw [wEs] at w ⊢
    exact wE_mono mF e _ _ _ (fun d t w => wEs_mono mF es _ _ _ (fun ps q => ⟨q.1, by rw [List.length_cons, q.2]; rfl⟩) (wEs_len mF es en _ w)) w
def toEs (f : Expr → Option E) : List Expr → Option Es
  | [] => some .nil
  | e :: es => (f e).bind fun e' => (toEs f es).bind fun es' => some (.cons e' es')

/-- a target: names -/
def tgNames : List Expr → Option (List Str)
  | [] => some []
  | .Name x _ :: r => (tgNames r).map (x :: ·)
  | _ :: _ => none
def tgOf : Expr → Option (Bool × List Str)
  | .Name x _ => some (true, [x])
  | .Tuple ts _ _ => (tgNames ts).map fun xs => (false, xs)
  | _ => none
def ixs (N : List Str) : List Str → Option (List Nat)
  | [] => some []
  | x :: xs => (ix N x).bind fun i => (ixs N xs).bind fun is => some (i :: is)
def ttOf : Bool → List Nat → Option Tt
  | true, [i] => some (.one i)
  | true, _ => none
  | false, is => some (.many is)
/-- the names of a comprehension's target may be stored in its block -/
def cstB (sc scope : Scope) (x : Str) : Bool := match (relS scope sc).names.lookup x with
  | some .local => true
  | some .cell => (match scope.names.lookup x with
    | some .cell => true
    | _ => false)
  | _ => false

/-- may be asked as a test -/
def tst : Nat → Expr → Bool
  | 0, _ => false
  | n + 1, e => match e with
    | .IfExp _ _ _ _ => false
    | .Compare _ [_] [_] _ => true
    | .Compare _ _ _ _ => false
    | .BoolOp _ vs _ => vs.all (tst n)
    | .UnaryOp .Not a _ => tst n a
    | _ => true
def constInt : Expr → Option Int
  | .Constant (.int i) _ _ => some i
  | .UnaryOp .USub (.Constant (.int i) _ _) _ => some (-i)
  | _ => none
def toIt (f : Expr → Option E) (sc : Scope) (e : Expr) : Option It := match e with
  | .Call (.Name x p) [a] [] q =>
    if x = "range" then (if glB sc x = true then (f a).bind fun a' => some (.rng (.con (.int 0)) a') else none)
    else if x = "reversed" then (if glB sc x = true then (f a).bind fun a' => some (.rev a') else none)
    else (f (.Call (.Name x p) [a] [] q)).bind fun e' => some (.seq e')
  | .Call (.Name x p) [a, b] [] q =>
    if x = "range" then (if glB sc x = true then (f a).bind fun a' => (f b).bind fun b' => some (.rng a' b') else none)
    else (f (.Call (.Name x p) [a, b] [] q)).bind fun e' => some (.seq e')
  | .Call (.Name x p) [a, b, g] [] q =>
    if x = "range" then (if glB sc x = true then (f a).bind fun a' => (f b).bind fun b' => (f g).bind fun _ => (constInt g).bind fun i => some (.rngc a' b' i) else none)
    else (f (.Call (.Name x p) [a, b, g] [] q)).bind fun e' => some (.seq e')
  | .Set _ _ _ => none
  | e => (f e).bind fun e' => some (.seq e')
/-- to the mini language; up: a call's list may be owned -/
def toE (c : Cs) : Nat → Bool → Scope → Expr → Option E
  | 0, _, _, _ => none
  | n + 1, up, sc, e => match e with
    | .Name x _ => if okName x = true then
        (if visB sc x = true then (ix c.N x).bind fun i => some (.var i)
         else if glB sc x = true then (ix c.cn x).bind fun j => some (.glb j) else none) else none
    | .Constant (.int i) _ _ => some (.con (.int i))
    | .Constant (.bool b) _ _ => some (.con (.bool b))
    | .Constant .none _ _ => some (.con .none)
    | .Constant (.str x) _ _ => some (.con (.str x))
    | .UnaryOp .USub a _ => (toE c n false sc a).bind fun a' => some (.neg a')
    | .UnaryOp .Not a _ => (toE c n false sc a).bind fun a' => some (.not a')
    | .BinOp a o b _ => (toE c n false sc a).bind fun a' => (toE c n false sc b).bind fun b' => (bopOf o).bind fun o' => some (.bin o' a' b')
    | .Compare a [o] [b] _ => (toE c n false sc a).bind fun a' => (toE c n false sc b).bind fun b' => (copOf o).bind fun o' => if behindInMarks o b = false then some (.cmp o' a' b') else none
    | .Compare a [o1, o2] [b, g] _ => (toE c n false sc a).bind fun a' => (toE c n false sc b).bind fun b' => (toE c n false sc g).bind fun g' => (copOf o1).bind fun o1' => (copOf o2).bind fun o2' =>
        if lastMarks [o1, o2] [b, g] = false then some (.chain o1' o2' a' b' g') else none
    | .BoolOp _ [a] _ => toE c n false sc a
    | .BoolOp .And (a :: b :: r) p => (toE c n false sc a).bind fun a' => (toE c n false sc (.BoolOp .And (b :: r) p)).bind fun b' => some (.and a' b')
    | .BoolOp .Or (a :: b :: r) p => (toE c n false sc a).bind fun a' => (toE c n false sc (.BoolOp .Or (b :: r) p)).bind fun b' => some (.or a' b')
    | .IfExp t a b _ => if tst 50 t = true then (toE c n false sc t).bind fun t' => (toE c n false sc a).bind fun a' => (toE c n false sc b).bind fun b' => some (.ite t' a' b') else none
    | .Tuple es _ _ => (toEs (toE c n false sc) es).bind fun es' => some (.tup es')
    | .List es _ => (toEs (toE c n false sc) es).bind fun es' => some (.lst es')
    | .Subscript a (.Slice none none (some (.UnaryOp .USub (.Constant (.int 1) _ _) _)) _) _ => (toE c n false sc a).bind fun a' => some (.rev a')
    | .Subscript a (.Slice (some l) none (some (.Constant (.int i) _ _)) _) _ => (toE c n false sc a).bind fun a' => (toE c n false sc l).bind fun l' => if i ≠ 0 then some (.step a' l') else none
    | .Subscript a (.Slice none none none _) _ => (toE c n false sc a).bind fun a' => some (.slc a' (.con .none) (.con .none))
    | .Subscript a (.Slice (some l) none none _) _ => (toE c n false sc a).bind fun a' => (toE c n false sc l).bind fun l' => if isNon l' = false then some (.slc a' l' (.con .none)) else none
    | .Subscript a (.Slice none (some h) none _) _ => (toE c n false sc a).bind fun a' => (toE c n false sc h).bind fun h' => if isNon h' = false then some (.slc a' (.con .none) h') else none
    | .Subscript a (.Slice (some l) (some h) none _) _ => (toE c n false sc a).bind fun a' => (toE c n false sc l).bind fun l' => (toE c n false sc h).bind fun h' => if isNon l' = false ∧ isNon h' = false then some (.slc a' l' h') else none
    | .Subscript _ (.Slice _ _ _ _) _ => none
    | .Subscript a b _ => (toE c n false sc a).bind fun a' => (toE c n false sc b).bind fun b' => some (.idx a' b')
    | .Call (.Name "isinstance" _) [a, .Name x _] [] _ => if okName x = true ∧ glB sc "isinstance" = true ∧ glB sc x = true then
        (toE c n false sc a).bind fun a' => (tyOf x).bind fun t => some (.isi t a') else none
    | .Call (.Name x _) (a :: es) [] _ => if okName x = true ∧ glB sc x = true then
        (toEs (toE c n false sc) (a :: es)).bind fun es' =>
          match ix (c.fn.map fun (p : Str × Nat) => p.1) x with
          | some j => if c.fn[j]? = some (x, (a :: es).length) then some (.call up j es') else none
          | none => (biOf x).bind fun b => some (.blt b es')
        else none
    | .ListComp elt [⟨tg, iter, ifs, 0⟩] scope _ =>
        (tgOf tg).bind fun (tn : Bool × List Str) => (ixs c.N tn.2).bind fun is => (ttOf tn.1 is).bind fun t =>
        (toIt (toE c n false sc) sc iter).bind fun it' =>
        (match ifs with
          | [] => some (E.con (.bool true))
          | [i] => if tst 50 i = true then toE c n false (relS scope sc) i else none
          | _ => none).bind fun c' =>
        (toE c n false (relS scope sc) elt).bind fun b' =>
        if blkC c.N sc scope (tn.2.zip is) = true ∧ (tn.2.all (cstB sc scope)) = true then some (.comp ((tn.2.zip is).map fun (p : Str × Nat) => p.2) t it' c' b') else none
    | _ => none
end Mi

set_option Elab.async false
set_option linter.all false
set_option maxRecDepth 100000
set_option maxHeartbeats 8000000
/-! The way to the mini language is sound: expressions. -/
namespace Mi
open PySem PySem.Spec PyProof.Rows L2

theorem star_cons {e : Expr} {es : List Expr} {env : Env} (h : ∀ a p, e ≠ .Starred a p) : starEach (e :: es) env = (false, eval e env) :: starEach es env := by
  cases e <;> first | rfl | exact absurd rfl (h _ _)
theorem star_any {env : Env} {pos : Pos} : ∀ {es : List Expr}, (∀ e ∈ es, ∀ a p, e ≠ .Starred a p) → (backTo pos (starEach es env)).any (·.1) = false
  | [], _ => rfl
  | e :: es, h => by
    rw [star_cons (h e List.mem_cons_self)]
    show (false || (backTo pos (starEach es env)).any (·.1)) = false
    rw [star_any fun e he => h e (List.mem_cons_of_mem _ he)]
    rfl
theorem toE_nostar {c : Cs} {n : Nat} {up : Bool} {sc : Scope} {e : Expr} {m : E} (h : toE c n up sc e = some m) : ∀ a p, e ≠ .Starred a p := by
  rintro a p rfl
  cases n <;> simp [toE] at h
theorem toE_noset {c : Cs} {n : Nat} {up : Bool} {sc : Scope} {e : Expr} {m : E} (h : toE c n up sc e = some m) : ∀ a k p, e ≠ .Set a k p := by
  rintro a k p rfl
  cases n <;> simp [toE] at h
theorem folded_ok {e : Expr} {env : Env} (h : ∀ a k p, e ≠ .Set a k p) : ∀ x, foldedSetIterable e env x = pure x := by
  intro x
  cases e <;> first | rfl | exact absurd rfl (h _ _ _)
theorem isTrue_val {e : Expr} {env : Env} (h1 : ∀ a p, e ≠ .UnaryOp .Not a p) (h2 : ∀ o a p, e ≠ .BoolOp o a p) (h3 : ∀ a b c p, e ≠ .IfExp a b c p) (h4 : ∀ a b c p, e ≠ .Compare a b c p) : ∀ whole, isTrue e env whole = (do let v ← whole; standAt e.pos; holding [v] (truthy v)) := by
  intro whole
  cases e with
  | UnaryOp op a p => cases op <;> first | rfl | exact absurd rfl (h1 _ _)
  | BoolOp o a p => exact absurd rfl (h2 _ _ _)
  | IfExp a b c p => exact absurd rfl (h3 _ _ _ _)
  | Compare a b c p => exact absurd rfl (h4 _ _ _ _)
  | _ => rfl

/-- what is shown of an expression -/
structure SE (c : Cs) (sc : Scope) (e : Expr) (m : E) : Prop where
  pe : ∀ (X : Cx) (F : Nat → Spc) (C : Nat → PyData) (k : Nat), Cok X c.N sc c.fn c.cn F C k → PE X e (tW X.K (wE F C m))
  pt : (∃ j, tst j e = true) → ∀ (X : Cx) (F : Nat → Spc) (C : Nat → PyData) (k : Nat), Cok X c.N sc c.fn c.cn F C k → PT X e (tT X.K (wE F C m))
  pw : (∃ j, tst j e = true) → (∃ o a p, e = .BoolOp o a p) → ∀ (X : Cx) (F : Nat → Spc) (C : Nat → PyData) (k : Nat), Cok X c.N sc c.fn c.cn F C k → PW X e (tT X.K (wE F C m))
theorem SE.plain {c : Cs} {sc : Scope} {e : Expr} {m : E} (h1 : ∀ a p, e ≠ .UnaryOp .Not a p) (h2 : ∀ o a p, e ≠ .BoolOp o a p) (h3 : ∀ a b c p, e ≠ .IfExp a b c p) (h4 : ∀ a b c p, e ≠ .Compare a b c p)
    (pe : ∀ (X : Cx) (F : Nat → Spc) (C : Nat → PyData) (k : Nat), Cok X c.N sc c.fn c.cn F C k → PE X e (tW X.K (wE F C m))) : SE c sc e m :=
  ⟨pe, fun _ X F C k ok => st_val (pe X F C k ok) (isTrue_val h1 h2 h3 h4) (wE_mono ok.mF m), fun _ ⟨_, _, _, q⟩ => absurd q (h2 _ _ _)⟩
/-- a list of arguments -/
structure SA (c : Cs) (sc : Scope) (es : List Expr) (ms : Es) : Prop where
  len : ms.len = es.length
  ns : ∀ e ∈ es, ∀ a p, e ≠ .Starred a p
  pa : ∀ (X : Cx) (F : Nat → Spc) (C : Nat → PyData) (k : Nat), Cok X c.N sc c.fn c.cn F C k → PA X es (tWs X.K (wEs F C ms))
theorem toEs_ok {c : Cs} {n : Nat} {sc : Scope} (ih : ∀ up sc e m, toE c n up sc e = some m → SE c sc e m) : ∀ {es : List Expr} {ms : Es}, toEs (toE c n false sc) es = some ms → SA c sc es ms
  | [], ms, h => by
    cases h
    exact ⟨rfl, fun _ h => (by cases h), fun X F C k ok => sa_nil⟩
  | e :: es, ms, h => by
    unfold toEs at h
    obtain ⟨e', h1, h⟩ := opt_bind h
    obtain ⟨es', h2, h⟩ := opt_bind h
    cases h
    have i1 := ih _ _ _ _ h1
    have i2 := toEs_ok ih h2
    have ns := toE_nostar h1
    refine ⟨by show es'.len + 1 = es.length + 1; rw [i2.len], fun x hx => ?_, fun X F C k ok => sa_cons (wE_mono ok.mF e') (wEs_mono ok.mF es') (i1.pe X F C k ok) (i2.pa X F C k ok) (star_cons ns)⟩
    rcases List.mem_cons.mp hx with rfl | hx
    · exact ns
    · exact i2.ns x hx
structure SI (c : Cs) (sc : Scope) (tg e : Expr) (m : It) : Prop where
  pi : ∀ (X : Cx) (F : Nat → Spc) (C : Nat → PyData) (k : Nat), Cok X c.N sc c.fn c.cn F C k → PI X tg e (tI X.K (wIt F C m))
  ns : ∀ a k p, e ≠ .Set a k p
theorem constInt_ok {X : Cx} {g : Expr} {i : Int} (h : constInt g = some i) : PE X g (tC (.int i)) := by
  unfold constInt at h
  split at h
  · cases h; exact pe_int
  · cases h; exact (pe_un un_neg pe_int).weak fun σ H Q q => ⟨_, rfl, q⟩
  · cases h
theorem toIt_ok {c : Cs} {n : Nat} {sc : Scope} (ih : ∀ up sc e m, toE c n up sc e = some m → SE c sc e m) {tg e : Expr} {m : It} (h : toIt (toE c n false sc) sc e = some m) : SI c sc tg e m := by
  have seq : ∀ {e : Expr} {m : It}, ((toE c n false sc e).bind fun e' => some (.seq e')) = some m → SI c sc tg e m := fun {e m} h => by
    obtain ⟨e', h1, h⟩ := opt_bind h
    cases h
    exact ⟨fun X F C k ok => si_seq ok (wE_mono ok.mF e') ((ih _ _ _ _ h1).pe X F C k ok), toE_noset h1⟩
  unfold toIt at h
  split at h
  · split at h
    · rename_i e
      subst e
      split at h
      · rename_i hg
        obtain ⟨a', h1, h⟩ := opt_bind h
        cases h
        exact ⟨fun X F C k ok => si_rng1 ok (glB_ok (by rw [ok.esc]; exact hg)) (wE_mono ok.mF a') ((ih _ _ _ _ h1).pe X F C k ok) (star_cons (toE_nostar h1)), by intros; simp⟩
      · cases h
    · split at h
      · rename_i e
        subst e
        split at h
        · rename_i hg
          obtain ⟨a', h1, h⟩ := opt_bind h
          cases h
          exact ⟨fun X F C k ok => si_rev ok (glB_ok (by rw [ok.esc]; exact hg)) (wE_mono ok.mF a') ((ih _ _ _ _ h1).pe X F C k ok) (star_cons (toE_nostar h1)), by intros; simp⟩
        · cases h
      · exact seq h
  · split at h
    · rename_i e
      subst e
      split at h
      · rename_i hg
        obtain ⟨a', h1, h⟩ := opt_bind h
        obtain ⟨b', h2, h⟩ := opt_bind h
        cases h
        exact ⟨fun X F C k ok => si_rng2 ok (glB_ok (by rw [ok.esc]; exact hg)) (wE_mono ok.mF a') (wE_mono ok.mF b') ((ih _ _ _ _ h1).pe X F C k ok) ((ih _ _ _ _ h2).pe X F C k ok)
          (by rw [star_cons (toE_nostar h1), star_cons (toE_nostar h2)]; rfl) (star_cons (toE_nostar h2)), by intros; simp⟩
      · cases h
    · exact seq h
  · split at h
    · rename_i e
      subst e
      split at h
      · rename_i hg
        obtain ⟨a', h1, h⟩ := opt_bind h
        obtain ⟨b', h2, h⟩ := opt_bind h
        obtain ⟨g', h3, h⟩ := opt_bind h
        obtain ⟨i, h4, h⟩ := opt_bind h
        cases h
        exact ⟨fun X F C k ok => si_rngc ok (glB_ok (by rw [ok.esc]; exact hg)) (wE_mono ok.mF a') (wE_mono ok.mF b') ((ih _ _ _ _ h1).pe X F C k ok) ((ih _ _ _ _ h2).pe X F C k ok) (constInt_ok h4)
          (star_cons (toE_nostar h1)) (star_cons (toE_nostar h2)) (star_cons (toE_nostar h3)) (star_any fun e he => by
            rcases List.mem_cons.mp he with rfl | he
            · exact toE_nostar h2
            · rcases List.mem_singleton.mp he with rfl
              exact toE_nostar h3), by intros; simp⟩
      · cases h
    · exact seq h
  · cases h
  · exact seq h
/-- a target -/
theorem tgNames_ok {X : Cx} {N : List Str} (hN : X.N.Nodup) (eN : X.N = N) (st : ∀ x i, N[i]? = some x → True → L2.Loc X.env.scope x ∧ (X.fn x = true ∨ X.env.scope.names.lookup x = some .local) → PG X (.Name x ⟨0, 0, 0, 0⟩) (gName i)) : True := trivial
theorem pgs_of {X : Cx} (hN : X.N.Nodup) : ∀ {ts : List Expr} {xs : List Str} {is : List Nat}, tgNames ts = some xs → ixs X.N xs = some is → (∀ x ∈ xs, L2.Loc X.env.scope x ∧ (X.fn x = true ∨ X.env.scope.names.lookup x = some .local)) → PGs X ts (gNames is) ∧ (assignEach ts X.env).length = is.length ∧ (assignEach ts X.env).findIdx? (·.1) = none
  | [], xs, is, h, h2, _ => by
    cases h
    cases h2
    exact ⟨pgs_nil, rfl, rfl⟩
  | t :: ts, xs, is, h, h2, hx => by
    unfold tgNames at h
    split at h
    · rename_i e; cases e
    · rename_i x p r e
      cases e
      cases q : tgNames ts with
      | none => rw [q] at h; cases h
      | some ys =>
        rw [q] at h
        cases h
        unfold ixs at h2
        obtain ⟨i, h3, h2⟩ := opt_bind h2
        obtain ⟨js, h4, h2⟩ := opt_bind h2
        cases h2
        obtain ⟨g1, g2, g3⟩ := pgs_of hN q h4 fun z hz => hx z (List.mem_cons_of_mem _ hz)
        obtain ⟨l1, l2⟩ := hx x List.mem_cons_self
        refine ⟨pgs_cons (pg_name hN (ix_some h3) l1 l2) g1 rfl, ?_, ?_⟩
        · show (assignEach ts X.env).length + 1 = js.length + 1
          rw [g2]
        · show ((false, assign (.Name x p) X.env) :: assignEach ts X.env).findIdx? (·.1) = none
          rw [List.findIdx?_cons, g3]
          rfl
    · cases h
theorem tg_ok {X : Cx} {tg : Expr} {b : Bool} {xs : List Str} {is : List Nat} {t : Tt} (hc : X.calm = true) (hN : X.N.Nodup) (h1 : tgOf tg = some (b, xs)) (h2 : ixs X.N xs = some is) (h3 : ttOf b is = some t) (hx : ∀ x ∈ xs, L2.Loc X.env.scope x ∧ (X.fn x = true ∨ X.env.scope.names.lookup x = some .local)) :
    PG X tg (gT X.K t) ∧ t.ix = is := by
  unfold tgOf at h1
  split at h1
  · cases h1
    unfold ixs at h2
    obtain ⟨i, h4, h2⟩ := opt_bind h2
    obtain ⟨js, h5, h2⟩ := opt_bind h2
    cases h5
    cases h2
    cases h3
    obtain ⟨l1, l2⟩ := hx _ (List.mem_singleton.mpr rfl)
    exact ⟨pg_name hN (ix_some h4) l1 l2, rfl⟩
  · cases q : tgNames _ with
    | none => rw [q] at h1; cases h1
    | some ys =>
      rw [q] at h1
      cases h1
      cases h3
      obtain ⟨g1, g2, g3⟩ := pgs_of hN q h2 hx
      exact ⟨pg_many hc g1 g2 g3, rfl⟩
  · cases h1
theorem ttOf_ix {b : Bool} {is : List Nat} {t : Tt} (h : ttOf b is = some t) : t.ix = is := by
  unfold ttOf at h
  split at h
  · cases h; rfl
  · cases h
  · cases h; rfl
theorem cstB_ok {X : Cx} {sc scope : Scope} {x : Str} {s : Shared} {H : Hp} {cl : List (Str × Addr)} {D : Addr} {fp : List Addr} (esc : X.env.scope = sc) (h : cstB sc scope x = true) :
    L2.Loc (X.blk s H scope (compEnvC scope cl D X.env) fp).env.scope x ∧ ((X.blk s H scope (compEnvC scope cl D X.env) fp).fn x = true ∨ (X.blk s H scope (compEnvC scope cl D X.env) fp).env.scope.names.lookup x = some .local) := by
  have e : (X.blk s H scope (compEnvC scope cl D X.env) fp).env.scope = relS scope sc := by rw [← esc]; rfl
  unfold cstB at h
  split at h
  · rename_i q
    rw [e]
    exact ⟨.inl q, .inr q⟩
  · rename_i q
    split at h
    · rename_i q2
      rw [e]
      refine ⟨.inr q, .inl ?_⟩
      show (scope.names.lookup x == some .cell) = true
      rw [q2]
      rfl
    · cases h
  · cases h
theorem ixs_zip {N : List Str} : ∀ {xs : List Str} {is : List Nat}, ixs N xs = some is → (xs.zip is).map (·.2) = is
  | [], is, h => by cases h; rfl
  | x :: xs, is, h => by
    unfold ixs at h
    obtain ⟨i, h1, h⟩ := opt_bind h
    obtain ⟨js, h2, h⟩ := opt_bind h
    cases h
    show i :: (xs.zip js).map (·.2) = i :: js
    rw [ixs_zip h2]

theorem tst_bool {op : BoolOp} {vs : List Expr} {p : Pos} (h : ∃ j, tst j (.BoolOp op vs p) = true) : ∃ j, (vs.all (tst j)) = true := by
  obtain ⟨j, h⟩ := h
  cases j with
  | zero => cases h
  | succ j => exact ⟨j, by simpa [tst] using h⟩

theorem plainIx_of {b : Expr} (h : ∀ l u s p, b = .Slice l u s p → False) : PlainIx b := fun o i => by
  cases b <;> first | rfl | exact (h _ _ _ _ rfl).elim
theorem sound_E (c : Cs) : ∀ (n : Nat) (up : Bool) (sc : Scope) (e : Expr) (m : E), toE c n up sc e = some m → SE c sc e m
  | 0, _, _, _, _, h => by cases h
  | n + 1, up, sc, e, m, h => by
    have ih := sound_E c n
    unfold toE at h
    split at h
    · -- Name
      split at h
      · rename_i ok
        obtain ⟨k1, k2, k3⟩ := okName_ok ok
        split at h
        · rename_i hv
          obtain ⟨i, h1, h⟩ := opt_bind h
          cases h
          exact .plain (by intros; simp) (by intros; simp) (by intros; simp) (by intros; simp) fun X F C k ok => se_var (by rw [ok.eN]; exact ix_some h1) (by rw [ok.esc]; exact visB_ok hv) k1 k2
        · split at h
          · rename_i hg
            obtain ⟨j, h1, h⟩ := opt_bind h
            cases h
            exact .plain (by intros; simp) (by intros; simp) (by intros; simp) (by intros; simp) fun X F C k ok => se_glb ok (ix_some h1) (glB_ok (by rw [ok.esc]; exact hg)) k1
          · cases h
      · cases h
    · cases h; exact .plain (by intros; simp) (by intros; simp) (by intros; simp) (by intros; simp) fun X F C k ok => se_con pe_int fun _ _ => .int _
    · cases h; exact .plain (by intros; simp) (by intros; simp) (by intros; simp) (by intros; simp) fun X F C k ok => se_con pe_bl fun _ _ => .bl _
    · cases h; exact .plain (by intros; simp) (by intros; simp) (by intros; simp) (by intros; simp) fun X F C k ok => se_con pe_non fun _ _ => .non
    · cases h; exact .plain (by intros; simp) (by intros; simp) (by intros; simp) (by intros; simp) fun X F C k ok => se_con pe_str fun _ _ => .str _
    · -- -a
      obtain ⟨a', h1, h⟩ := opt_bind h
      cases h
      exact .plain (by intros; simp) (by intros; simp) (by intros; simp) (by intros; simp) fun X F C k ok => se_neg (wE_mono ok.mF a') ((ih _ _ _ _ h1).pe X F C k ok)
    · -- not a
      obtain ⟨a', h1, h⟩ := opt_bind h
      cases h
      refine ⟨fun X F C k ok => se_not (wE_mono ok.mF a') ((ih _ _ _ _ h1).pe X F C k ok), fun ⟨j, hj⟩ X F C k ok => st_not (wE_mono ok.mF a') ((ih _ _ _ _ h1).pt ?_ X F C k ok), fun _ ⟨_, _, _, q⟩ => by cases q⟩
      cases j with
      | zero => cases hj
      | succ j => exact ⟨j, by simpa [tst] using hj⟩
    · -- a op b
      obtain ⟨a', h1, h⟩ := opt_bind h
      obtain ⟨b', h2, h⟩ := opt_bind h
      obtain ⟨o', h3, h⟩ := opt_bind h
      cases h
      cases bopOf_ok h3
      exact .plain (by intros; simp) (by intros; simp) (by intros; simp) (by intros; simp) fun X F C k ok => se_bin (wE_mono ok.mF a') (wE_mono ok.mF b') ((ih _ _ _ _ h1).pe X F C k ok) ((ih _ _ _ _ h2).pe X F C k ok)
    · -- a < b
      obtain ⟨a', h1, h⟩ := opt_bind h
      obtain ⟨b', h2, h⟩ := opt_bind h
      obtain ⟨o', h3, h⟩ := opt_bind h
      split at h
      · rename_i hm
        cases h
        cases copOf_ok h3
        exact ⟨fun X F C k ok => se_cmp ok hm (wE_mono ok.mF a') (wE_mono ok.mF b') ((ih _ _ _ _ h1).pe X F C k ok) ((ih _ _ _ _ h2).pe X F C k ok), fun _ X F C k ok => st_cmp ok hm (wE_mono ok.mF a') (wE_mono ok.mF b') ((ih _ _ _ _ h1).pe X F C k ok) ((ih _ _ _ _ h2).pe X F C k ok), fun _ ⟨_, _, _, q⟩ => by cases q⟩
      · cases h
    · -- a < b < c
      obtain ⟨a', h1, h⟩ := opt_bind h
      obtain ⟨b', h2, h⟩ := opt_bind h
      obtain ⟨g', h3, h⟩ := opt_bind h
      obtain ⟨o1', h4, h⟩ := opt_bind h
      obtain ⟨o2', h5, h⟩ := opt_bind h
      split at h
      · rename_i hm
        cases h
        cases copOf_ok h4
        cases copOf_ok h5
        refine ⟨fun X F C k ok => se_chain ok hm (wE_mono ok.mF a') (wE_mono ok.mF b') (wE_mono ok.mF g') ((ih _ _ _ _ h1).pe X F C k ok) ((ih _ _ _ _ h2).pe X F C k ok) ((ih _ _ _ _ h3).pe X F C k ok), fun ⟨j, hj⟩ => ?_, fun _ ⟨_, _, _, q⟩ => by cases q⟩
        cases j with
        | zero => cases hj
        | succ j => simp [tst] at hj
      · cases h
    · -- one
      have i1 := ih _ _ _ _ h
      rename_i op a p
      refine ⟨fun X F C k ok => pe_one (i1.pe X F C k ok), fun ht X F C k ok => ?_, fun ht _ X F C k ok => ?_⟩
      · obtain ⟨j, hj⟩ := tst_bool ht
        have : PW X (.BoolOp op [a] p) (tT X.K (wE F C m)) := by
          have pa := i1.pt ⟨j, by simpa using hj⟩ X F C k ok
          cases op with
          | And => exact pw_and1 pa
          | Or => exact pw_or1 pa
        exact this.pt
      · obtain ⟨j, hj⟩ := tst_bool ht
        have pa := i1.pt ⟨j, by simpa using hj⟩ X F C k ok
        cases op with
        | And => exact pw_and1 pa
        | Or => exact pw_or1 pa
    · -- and
      obtain ⟨a', h1, h⟩ := opt_bind h
      obtain ⟨b', h2, h⟩ := opt_bind h
      cases h
      have i1 := ih _ _ _ _ h1
      have i2 := ih _ _ _ _ h2
      rename_i a b r p _
      have pw : (∃ j, tst j (.BoolOp .And (a :: b :: r) p) = true) → ∀ (X : Cx) (F : Nat → Spc) (C : Nat → PyData) (k : Nat), Cok X c.N sc c.fn c.cn F C k → PW X (.BoolOp .And (a :: b :: r) p) (tT X.K (wE F C (.and a' b'))) := fun ht X F C k ok => by
        obtain ⟨j, hj⟩ := tst_bool ht
        rw [List.all_cons, Bool.and_eq_true] at hj
        exact st_and (wE_mono ok.mF a') (wE_mono ok.mF b') (i1.pt ⟨j, hj.1⟩ X F C k ok) (i2.pw ⟨j + 1, by simpa [tst] using hj.2⟩ ⟨_, _, _, rfl⟩ X F C k ok)
      exact ⟨fun X F C k ok => se_and (wE_mono ok.mF a') (wE_mono ok.mF b') (i1.pe X F C k ok) (i2.pe X F C k ok), fun ht X F C k ok => (pw ht X F C k ok).pt, fun ht _ => pw ht⟩
    · -- or
      obtain ⟨a', h1, h⟩ := opt_bind h
      obtain ⟨b', h2, h⟩ := opt_bind h
      cases h
      have i1 := ih _ _ _ _ h1
      have i2 := ih _ _ _ _ h2
      rename_i a b r p _
      have pw : (∃ j, tst j (.BoolOp .Or (a :: b :: r) p) = true) → ∀ (X : Cx) (F : Nat → Spc) (C : Nat → PyData) (k : Nat), Cok X c.N sc c.fn c.cn F C k → PW X (.BoolOp .Or (a :: b :: r) p) (tT X.K (wE F C (.or a' b'))) := fun ht X F C k ok => by
        obtain ⟨j, hj⟩ := tst_bool ht
        rw [List.all_cons, Bool.and_eq_true] at hj
        exact st_or (wE_mono ok.mF a') (wE_mono ok.mF b') (i1.pt ⟨j, hj.1⟩ X F C k ok) (i2.pw ⟨j + 1, by simpa [tst] using hj.2⟩ ⟨_, _, _, rfl⟩ X F C k ok)
      exact ⟨fun X F C k ok => se_or (wE_mono ok.mF a') (wE_mono ok.mF b') (i1.pe X F C k ok) (i2.pe X F C k ok), fun ht X F C k ok => (pw ht X F C k ok).pt, fun ht _ => pw ht⟩
    · -- if
      split at h
      · rename_i ht
        obtain ⟨t', h1, h⟩ := opt_bind h
        obtain ⟨a', h2, h⟩ := opt_bind h
        obtain ⟨b', h3, h⟩ := opt_bind h
        cases h
        refine ⟨fun X F C k ok => se_ite (wE_mono ok.mF t') (wE_mono ok.mF a') (wE_mono ok.mF b') ((ih _ _ _ _ h1).pt ⟨50, ht⟩ X F C k ok) ((ih _ _ _ _ h2).pe X F C k ok) ((ih _ _ _ _ h3).pe X F C k ok), fun ⟨j, hj⟩ => ?_, fun _ ⟨_, _, _, q⟩ => by cases q⟩
        cases j with
        | zero => cases hj
        | succ j => simp [tst] at hj
      · cases h
    · -- tuple
      obtain ⟨es', h1, h⟩ := opt_bind h
      cases h
      exact .plain (by intros; simp) (by intros; simp) (by intros; simp) (by intros; simp) fun X F C k ok => se_tup (wEs_mono ok.mF es') ((toEs_ok ih h1).pa X F C k ok)
    · -- list
      obtain ⟨es', h1, h⟩ := opt_bind h
      cases h
      exact .plain (by intros; simp) (by intros; simp) (by intros; simp) (by intros; simp) fun X F C k ok => se_lst (wEs_mono ok.mF es') ((toEs_ok ih h1).pa X F C k ok)
    · -- a[::-1]
      obtain ⟨a', h1, h⟩ := opt_bind h
      cases h
      refine .plain (by intros; simp) (by intros; simp) (by intros; simp) (by intros; simp) fun X F C k ok => (pe_revL ((ih _ _ _ _ h1).pe X F C k ok)).weak fun σ H Q q => ?_
      obtain ⟨G0, H0, en, G, r, w⟩ := q
      rw [wE] at w
      exact tW_of (wE_mono ok.mF a') r w fun d t v G1 H1 p e o => revW_sound (Hs := H) e.sub e.nl o p fun d t v G' H' q e2 o2 => q _ _ _ (e.trans e2) (o2.start e.sh)
    · -- a[lo::c]
      obtain ⟨a', h1, h⟩ := opt_bind h
      obtain ⟨l', h2, h⟩ := opt_bind h
      split at h
      · rename_i hi
        cases h
        exact .plain (by intros; simp) (by intros; simp) (by intros; simp) (by intros; simp) fun X F C k ok => se_step hi (wE_mono ok.mF a') (wE_mono ok.mF l') ((ih _ _ _ _ h1).pe X F C k ok) ((ih _ _ _ _ h2).pe X F C k ok)
      · cases h
    · -- slices
      obtain ⟨a', h1, h⟩ := opt_bind h
      cases h
      exact .plain (by intros; simp) (by intros; simp) (by intros; simp) (by intros; simp) fun X F C k ok => se_slc (wE_mono ok.mF a') (wE_mono ok.mF _) (wE_mono ok.mF _) ((ih _ _ _ _ h1).pe X F C k ok) so_none so_none
    · obtain ⟨a', h1, h⟩ := opt_bind h
      obtain ⟨l', h2, h⟩ := opt_bind h
      split at h
      · rename_i hl
        cases h
        exact .plain (by intros; simp) (by intros; simp) (by intros; simp) (by intros; simp) fun X F C k ok => se_slc (wE_mono ok.mF a') (wE_mono ok.mF _) (wE_mono ok.mF _) ((ih _ _ _ _ h1).pe X F C k ok) (by rw [hl]; exact so_some (wE_mono ok.mF _) ((ih _ _ _ _ h2).pe X F C k ok)) so_none
      · cases h
    · obtain ⟨a', h1, h⟩ := opt_bind h
      obtain ⟨l', h2, h⟩ := opt_bind h
      split at h
      · rename_i hl
        cases h
        exact .plain (by intros; simp) (by intros; simp) (by intros; simp) (by intros; simp) fun X F C k ok => se_slc (wE_mono ok.mF a') (wE_mono ok.mF _) (wE_mono ok.mF _) ((ih _ _ _ _ h1).pe X F C k ok) so_none (by rw [hl]; exact so_some (wE_mono ok.mF _) ((ih _ _ _ _ h2).pe X F C k ok))
      · cases h
    · obtain ⟨a', h1, h⟩ := opt_bind h
      obtain ⟨l', h2, h⟩ := opt_bind h
      obtain ⟨u', h3, h⟩ := opt_bind h
      split at h
      · rename_i hl
        cases h
        exact .plain (by intros; simp) (by intros; simp) (by intros; simp) (by intros; simp) fun X F C k ok => se_slc (wE_mono ok.mF a') (wE_mono ok.mF _) (wE_mono ok.mF _) ((ih _ _ _ _ h1).pe X F C k ok) (by rw [hl.1]; exact so_some (wE_mono ok.mF _) ((ih _ _ _ _ h2).pe X F C k ok)) (by rw [hl.2]; exact so_some (wE_mono ok.mF _) ((ih _ _ _ _ h3).pe X F C k ok))
      · cases h
    · cases h
    · -- a[b]
      rename_i hno
      obtain ⟨a', h1, h⟩ := opt_bind h
      obtain ⟨b', h2, h⟩ := opt_bind h
      cases h
      exact .plain (by intros; simp) (by intros; simp) (by intros; simp) (by intros; simp) fun X F C k ok => se_idx (plainIx_of hno) (wE_mono ok.mF a') (wE_mono ok.mF b') ((ih _ _ _ _ h1).pe X F C k ok) ((ih _ _ _ _ h2).pe X F C k ok)
    · -- isinstance
      split at h
      · rename_i hk
        obtain ⟨hk, hg, hg2⟩ := hk
        obtain ⟨a', h1, h⟩ := opt_bind h
        obtain ⟨t, h2, h⟩ := opt_bind h
        cases h
        obtain ⟨k1, _, k3⟩ := okName_ok hk
        obtain ⟨m1, m2⟩ := tyOf_ok h2
        exact .plain (by intros; simp) (by intros; simp) (by intros; simp) (by intros; simp) fun X F C k ok => se_isi ok m1 m2 (glB_ok (by rw [ok.esc]; exact hg)) (glB_ok (by rw [ok.esc]; exact hg2)) (wE_mono ok.mF a') ((ih _ _ _ _ h1).pe X F C k ok) k3 k1 (star_cons (toE_nostar h1))
      · cases h
    · -- calls
      split at h
      · rename_i hk
        obtain ⟨k1, k2, k3⟩ := okName_ok hk.1
        obtain ⟨es', h1, h⟩ := opt_bind h
        have a1 := toEs_ok ih h1
        have nsa := a1.ns _ List.mem_cons_self
        have nsr := fun e he => a1.ns e (List.mem_cons_of_mem _ he)
        split at h
        · split at h
          · rename_i hj
            cases h
            exact .plain (by intros; simp) (by intros; simp) (by intros; simp) (by intros; simp) fun X F C k ok => se_call ok hj (glB_ok (by rw [ok.esc]; exact hk.2)) (wEs_mono ok.mF es') (a1.pa X F C k ok) (fun en Q q => by rw [← a1.len]; exact wEs_len ok.mF es' en Q q) k1 (star_cons nsa) (star_any nsr)
          · cases h
        · obtain ⟨b, h2, h⟩ := opt_bind h
          cases h
          obtain ⟨b1, b2⟩ := biOf_ok h2
          exact .plain (by intros; simp) (by intros; simp) (by intros; simp) (by intros; simp) fun X F C k ok => se_blt ok b1 b2 (glB_ok (by rw [ok.esc]; exact hk.2)) (wEs_mono ok.mF es') (a1.pa X F C k ok) k3 k1 (star_cons nsa) (star_any nsr)
      · cases h
    · -- comprehensions
      rename_i elt tg iter ifs scope pos
      obtain ⟨tn, h1, h⟩ := opt_bind h
      obtain ⟨is, h2, h⟩ := opt_bind h
      obtain ⟨t, h3, h⟩ := opt_bind h
      obtain ⟨it', h4, h⟩ := opt_bind h
      obtain ⟨c', h5, h⟩ := opt_bind h
      obtain ⟨b', h6, h⟩ := opt_bind h
      obtain ⟨tb, xs⟩ := tn
      split at h
      · rename_i hb
        cases h
        refine .plain (by intros; simp) (by intros; simp) (by intros; simp) (by intros; simp) fun X F C k ok => ?_
        have i4 : SI c sc tg iter it' := toIt_ok ih h4
        have hx : ∀ (s : Shared) (H : Hp) (D : Addr) (cl : List (Str × Addr)) (fp : List Addr), PG (X.blk s H scope (compEnvC scope cl D X.env) fp) tg (gT X.K t) ∧ t.ix = is := fun s H D cl fp =>
          tg_ok (X := X.blk s H scope (compEnvC scope cl D X.env) fp) ok.calm ok.nd h1 (by show ixs X.N xs = _; rw [ok.eN]; exact h2) h3 fun x hx => cstB_ok ok.esc (List.all_eq_true.mp hb.2 x hx)
        refine se_comp ok (fun i hi => ?_) (i4.pi X F C k ok) (by rw [ok.eN, ok.esc]; exact blkOk_by hb.1) (fun s H D cl fp => (hx s H D cl fp).1) (fun s H D cl fp => ?_) (fun s H D cl fp => (ih _ _ _ _ h6).pe _ F C k (ok.blk s H scope cl D fp)) (folded_ok i4.ns)
        · rw [ixs_zip h2]
          rw [ttOf_ix h3] at hi
          exact hi
        · split at h5
          · cases h5
            exact sts_nil
          · split at h5
            · rename_i ht
              exact pts_one ((ih _ _ _ _ h5).pt ⟨50, ht⟩ _ F C k (ok.blk s H scope cl D fp))
            · cases h5
          · cases h5
      · cases h
    · cases h
end Mi

set_option Elab.async false
set_option linter.all false
set_option maxRecDepth 100000
set_option maxHeartbeats 8000000
/-! The way to the mini language: statements, defs. -/
namespace Mi
open PySem PySem.Spec PyProof.Rows L2

/-! ### what is frozen ahead of a store -/
mutual
/-- e's value may be (or hold) an owned list -/
def escS (ow : List Nat) : E → Bool
  | .var i => ow.contains i
  | .con _ => false
  | .glb _ => false
  | .neg _ => false
  | .bin _ a b => escN ow a || escN ow b
  | .cmp _ a b => escN ow a || escN ow b
  | .chain _ _ a b c => escN ow a || escN ow b || escN ow c
  | .and a b => escN ow a || escS ow b
  | .or a b => escN ow a || escS ow b
  | .not a => escN ow a
  | .ite c a b => escN ow c || escS ow a || escS ow b
  | .tup es => escSs ow es
  | .lst es => escSs ow es
  | .idx a i => escN ow a || escN ow i
  | .slc a l h => escN ow a || escN ow l || escN ow h
  | .rev a => escN ow a
  | .isi _ a => escN ow a
  | .step a l => escN ow a || escN ow l
  | .call _ _ es => escSs ow es
  | .blt _ es => escNs ow es
  | .comp _ _ it c b => escI ow it || escN ow c || escS ow b
def escN (ow : List Nat) : E → Bool
  | .var _ => false
  | .con _ => false
  | .glb _ => false
  | .neg _ => false
  | .bin _ a b => escN ow a || escN ow b
  | .cmp _ a b => escN ow a || escN ow b
  | .chain _ _ a b c => escN ow a || escN ow b || escN ow c
  | .and a b => escN ow a || escN ow b
  | .or a b => escN ow a || escN ow b
  | .not a => escN ow a
  | .ite c a b => escN ow c || escN ow a || escN ow b
  | .tup es => escSs ow es
  | .lst es => escSs ow es
  | .idx a i => escN ow a || escN ow i
  | .slc a l h => escN ow a || escN ow l || escN ow h
  | .rev a => escN ow a
  | .isi _ a => escN ow a
  | .step a l => escN ow a || escN ow l
  | .call _ _ es => escSs ow es
  | .blt _ es => escNs ow es
  | .comp _ _ it c b => escI ow it || escN ow c || escS ow b
def escSs (ow : List Nat) : Es → Bool
  | .nil => false
  | .cons e es => escS ow e || escSs ow es
def escNs (ow : List Nat) : Es → Bool
  | .nil => false
  | .cons e es => escN ow e || escNs ow es
def escI (ow : List Nat) : It → Bool
  | .seq e => escN ow e
  | .rng a b => escN ow a || escN ow b
  | .rngc a b _ => escN ow a || escN ow b
  | .rev e => escN ow e
end
/-- what is walked is an owned list -/
def ownIt (ow : List Nat) : It → Bool
  | .seq e => escS ow e
  | .rev e => escS ow e
  | _ => false

/-! ### stores to several names at once -/
/-- the result of swappedStores, by the names' kinds; none: not told -/
def swB (kind : Str → Option NameKind) (ts vs : List Expr) : Option (Option (List Str)) :=
  if !(ts.length == 2 || ts.length == 3) || vs.length != ts.length then some none
  else if (vs.any fun | .Starred .. => true | _ => false) then some none
  else
    let line := (ts.head?.map (·.pos.line)).getD 0
    let names := ts.filterMap fun
      | .Name id pos => if kind id == some .local && pos.line == line then some id else none
      | _ => none
    if names.length != ts.length || names.eraseDups.length != names.length then some none
    else if vs.all (foldedForSure 8) then some none
    else if vs.all (constantsAlone 8) then none
    else some (some names)
theorem swB_ok {env : Env} {ts vs : List Expr} {k1 k2 : Nat} {p1 p2 : Pos} {r : Option (List Str)} (hk : env.scope.kind = .function) (h : swB env.kindOf ts vs = some r) : swappedStores [.Tuple ts k1 p1] (.Tuple vs k2 p2) env = pure r := by
  have hb : (env.blockKind != .function) = false := by
    unfold Env.blockKind
    rw [hk]
    rfl
  unfold swB at h
  unfold swappedStores
  simp only [hb, Bool.or_false]
  split at h
  · rename_i h1
    cases h
    simp only [h1, if_true]
  · rename_i h1
    simp only [h1]
    split at h
    · rename_i h2
      cases h
      refine (if_neg (by decide)).trans ?_
      exact if_pos h2
    · rename_i h2
      refine (if_neg (by decide)).trans ((if_neg h2).trans ?_)
      simp only at h
      split at h
      · rename_i h3
        cases h
        exact if_pos h3
      · rename_i h3
        refine (if_neg h3).trans ?_
        split at h
        · rename_i h4
          cases h
          exact if_pos h4
        · rename_i h4
          refine (if_neg h4).trans ?_
          split at h
          · cases h
          · rename_i h5
            cases h
            exact if_neg h5

theorem noswap {e : Expr} {t : Option Expr} {l : Nat} {env : Env} (h1 : ∀ a b c d, e ≠ .ListComp a b c d) (h2 : ∀ a b c d, e ≠ .SetComp a b c d) (h3 : ∀ a b c d f, e ≠ .DictComp a b c d f) : swapsWith e t l env = pure false := by
  cases e <;> first | rfl | exact absurd rfl (h1 _ _ _ _) | exact absurd rfl (h2 _ _ _ _) | exact absurd rfl (h3 _ _ _ _ _)
def isComp : Expr → Bool
  | .ListComp _ _ _ _ => true
  | .SetComp _ _ _ _ => true
  | .DictComp _ _ _ _ _ => true
  | _ => false
theorem isComp_no {e : Expr} {t : Option Expr} {l : Nat} {env : Env} (h : isComp e = false) : swapsWith e t l env = pure false :=
  noswap (by rintro a b c d rfl; cases h) (by rintro a b c d rfl; cases h) (by rintro a b c d f rfl; cases h)
def isTupE : Expr → Bool
  | .Tuple _ _ _ => true
  | _ => false
theorem notup {tg e : Expr} {env : Env} (h : isTupE e = false) : swappedStores [tg] e env = pure none := by
  unfold swappedStores
  cases e <;> first | (cases tg <;> rfl) | cases h
/-- the statements' way: x = [..] on one line -/
def lcB (sc : Scope) (x : Str) (p : Pos) : Expr → Option Bool
  | .ListComp _ _ scope pos => match sc.names.lookup x with
    | some .local => if (p.line == pos.line) = true ∧ (scope.names.any fun (n, k) => n == x && (k == .local || k == .cell)) = false then some true else none
    | some .cell => some false
    | _ => none
  | .SetComp _ _ _ _ => none
  | .DictComp _ _ _ _ _ => none
  | _ => some false
theorem lcB_false {sc : Scope} {x : Str} {p : Pos} {e : Expr} {l : Nat} {env : Env} (hk : env.scope.kind = .function) (hs : env.scope = sc) (h : lcB sc x p e = some false) : swapsWith e (some (.Name x p)) l env = pure false := by
  unfold lcB at h
  split at h
  · rename_i elt gs scope pos
    split at h
    · split at h <;> cases h
    · rename_i hc
      have kx : env.kindOf x = some .cell := by unfold Env.kindOf; rw [hs]; exact hc
      unfold swapsWith
      simp only [kx]
      show (pure ((env.blockKind == .function && (some NameKind.cell == some NameKind.local) && p.line == (Expr.ListComp elt gs scope pos).pos.line && _)) : Sem Bool) = pure false
      have e : (some NameKind.cell == some NameKind.local) = false := by decide
      rw [e, Bool.and_false, Bool.false_and, Bool.false_and]
    · cases h
  · cases h
  · cases h
  · rename_i h1 h2 h3
    exact noswap (fun a b c d z => h1 _ _ _ _ z) (fun a b c d z => h2 _ _ _ _ z) (fun a b c d f z => h3 _ _ _ _ _ z)

def toSs (f : Stmt → Option S) : List Stmt → Option Ss
  | [] => some .nil
  | s :: ss => (f s).bind fun s' => (toSs f ss).bind fun ss' => some (.cons s' ss')
def toS (c : Cs) (sc : Scope) : Nat → Stmt → Option S
  | 0, _ => none
  | n + 1, st => match st with
    | .Assign [tg] (.Call (.Attribute (.Name x xp) m ap) [] [] cp) _ =>
        if m = "pop" ∧ okName x = true ∧ locB sc x = true ∧ (ap.endLine == cp.line) = true then
          (ix c.N x).bind fun i => (tgOf tg).bind fun (tn : Bool × List Str) => (ixs c.N tn.2).bind fun is => (ttOf tn.1 is).bind fun t => if (tn.2.all (locB sc)) = true then some (.pop t i) else none
        else none
    | .Assign [.Name x p] e pos =>
        if locB sc x = true then (ix c.N x).bind fun i => (toE c 100 (c.ow.contains i) sc e).bind fun e' => (lcB sc x p e).bind fun _ => some (.set (escS c.ow e') (c.ow.contains i) i e') else none
    | .Assign [.Tuple ts k1 p1] (.Tuple vs k2 p2) pos => match swB (fun z => sc.names.lookup z) ts vs with
        | some none => (tgNames ts).bind fun xs => (ixs c.N xs).bind fun is => (toE c 100 false sc (.Tuple vs k2 p2)).bind fun e' => if (xs.all (locB sc)) = true then some (.unp (escS c.ow e') is e') else none
        | some (some names) => (match ts, vs with
          | [.Name x _, .Name y _], [a, b] => if names = [x, y] then (ix c.N x).bind fun i => (ix c.N y).bind fun j => (toEs (toE c 100 false sc) [a, b]).bind fun es' =>
              if i ≠ j ∧ sc.names.lookup x = some .local ∧ sc.names.lookup y = some .local then some (.par [i, j] es') else none else none
          | [.Name x _, .Name y _, .Name z _], [a, b, g] => if names = [x, y, z] then (ix c.N x).bind fun i => (ix c.N y).bind fun j => (ix c.N z).bind fun l => (toEs (toE c 100 false sc) [a, b, g]).bind fun es' =>
              if i ≠ j ∧ i ≠ l ∧ j ≠ l ∧ sc.names.lookup x = some .local ∧ sc.names.lookup y = some .local ∧ sc.names.lookup z = some .local then some (.par [i, j, l] es') else none else none
          | _, _ => none)
        | none => none
    | .Assign [.Tuple ts k1 p1] e pos => (tgNames ts).bind fun xs => (ixs c.N xs).bind fun is => (toE c 100 false sc e).bind fun e' => if (xs.all (locB sc)) = true ∧ isComp e = false ∧ isTupE e = false then some (.unp (escS c.ow e') is e') else none
    | .Assign [.Subscript (.Name x xp) (.Name a p) tp] e pos => if okName x = true ∧ locB sc x = true ∧ isComp e = false ∧ isTupE e = false then
        (ix c.N x).bind fun i => (toE c 100 false sc (.Name a p)).bind fun a' => (toE c 100 false sc e).bind fun e' => some (.seti i a' e') else none
    | .Assign [.Subscript (.Name x xp) (.UnaryOp o a p) tp] e pos => if okName x = true ∧ locB sc x = true ∧ isComp e = false ∧ isTupE e = false then
        (ix c.N x).bind fun i => (toE c 100 false sc (.UnaryOp o a p)).bind fun a' => (toE c 100 false sc e).bind fun e' => some (.seti i a' e') else none
    | .Expr (.Call (.Attribute (.Name x xp) m ap) [e] [] cp) _ => if okName x = true ∧ locB sc x = true ∧ (ap.endLine == cp.line) = true then
        (ix c.N x).bind fun i => (toE c 100 false sc e).bind fun e' => if m = "append" then some (.app i e') else if m = "extend" then some (.ext i e') else none else none
    | .Expr (.Call (.Attribute (.Name x xp) m ap) [a, e] [] cp) _ => if okName x = true ∧ locB sc x = true ∧ (ap.endLine == cp.line) = true ∧ m = "insert" then
        (ix c.N x).bind fun i => (toE c 100 false sc a).bind fun a' => (toE c 100 false sc e).bind fun e' => some (.ins i a' e') else none
    | .If t a b _ => if tst 50 t = true then (toE c 100 false sc t).bind fun t' => (toSs (toS c sc n) a).bind fun a' => (toSs (toS c sc n) b).bind fun b' => some (.ifs t' a' b') else none
    | .While t b [] _ => if tst 50 t = true then (toE c 100 false sc t).bind fun t' => (toSs (toS c sc n) b).bind fun b' => some (.whl t' b') else none
    | .For tg it b [] _ => (tgOf tg).bind fun (tn : Bool × List Str) => (ixs c.N tn.2).bind fun is => (ttOf tn.1 is).bind fun t => (toIt (toE c 100 false sc) sc it).bind fun it' => (toSs (toS c sc n) b).bind fun b' =>
        if (tn.2.all (locB sc)) = true then some (.for_ (ownIt c.ow it') t it' b') else none
    | .Return (some e) _ => (toE c 100 false sc e).bind fun e' => some (.ret e')
    | .Return none _ => some .retn
    | .Pass _ => some .pass
    | .Break _ => some .brk
    | .Continue _ => some .cont
    | .Raise _ _ _ => some .nev
    | .Expr e _ => if isComp e = false then (toE c 100 false sc e).bind fun e' => some (.drop e') else none
    | _ => none
end Mi

set_option Elab.async false
set_option linter.all false
set_option maxRecDepth 100000
set_option maxHeartbeats 8000000
/-! .. is sound; a def keeps its promise. -/
namespace Mi
open PySem PySem.Spec PyProof.Rows L2

/-- what is shown of a statement -/
structure Cst (X : Cx) : Prop where
  fn : ∀ x, X.fn x = true
  kind : X.env.scope.kind = .function
  own : PassesOwn (model X.prog X.w) X.A X.env X.xe
def SS (c : Cs) (sc : Scope) (st : Stmt) (m : S) : Prop := ∀ (X : Cx) (F : Nat → Spc) (C : Nat → PyData) (k : Nat), Cok X c.N sc c.fn c.cn F C k → Cst X → PS X st (tS X.K (wS F C m))
def SSs (c : Cs) (sc : Scope) (st : List Stmt) (m : Ss) : Prop := ∀ (X : Cx) (F : Nat → Spc) (C : Nat → PyData) (k : Nat), Cok X c.N sc c.fn c.cn F C k → Cst X → PSs X st (tS X.K (wSs F C m))
theorem toSs_ok {c : Cs} {sc : Scope} {f : Stmt → Option S} (ih : ∀ st m, f st = some m → SS c sc st m) : ∀ {sts : List Stmt} {ms : Ss}, toSs f sts = some ms → SSs c sc sts ms
  | [], ms, h => by
    cases h
    exact fun X F C k ok st => ss_nil
  | s :: ss, ms, h => by
    unfold toSs at h
    obtain ⟨s', h1, h⟩ := opt_bind h
    obtain ⟨ss', h2, h⟩ := opt_bind h
    cases h
    exact fun X F C k ok st => ss_cons (wS_mono ok.mF s') (ih _ _ h1 X F C k ok st) (toSs_ok ih h2 X F C k ok st)
theorem all_loc {X : Cx} {sc : Scope} (esc : X.env.scope = sc) (fn : ∀ x, X.fn x = true) {xs : List Str} (h : xs.all (locB sc) = true) : ∀ x ∈ xs, L2.Loc X.env.scope x ∧ (X.fn x = true ∨ X.env.scope.names.lookup x = some .local) := fun x hx =>
  ⟨by rw [esc]; exact locB_ok (List.all_eq_true.mp h x hx), .inl (fn x)⟩
/-- a comprehension's parts -/
theorem lc_parts {c : Cs} {n : Nat} {up : Bool} {sc scope : Scope} {elt : Expr} {gs : List Comprehension} {pos : Pos} {e' : E} (h : toE c (n + 1) up sc (.ListComp elt gs scope pos) = some e') :
    ∃ tg iter ifs, ∃ (own : List (Str × Nat)) (t : Tt) (it' : It) (c' b' : E), gs = [⟨tg, iter, ifs, 0⟩] ∧ e' = .comp (own.map (·.2)) t it' c' b' ∧ (∀ i ∈ t.ix, i ∈ own.map (·.2)) ∧
      ∀ (X : Cx) (F : Nat → Spc) (C : Nat → PyData) (k : Nat), Cok X c.N sc c.fn c.cn F C k → PI X tg iter (tI X.K (wIt F C it')) ∧ BlkOk X.N X.env.scope scope own ∧
        (∀ (s : Shared) (H : Hp) (D : Addr) (cl : List (Str × Addr)) (fp : List Addr), PG (X.blk s H scope (compEnvC scope cl D X.env) fp) tg (gT X.K t)) ∧
        (∀ (s : Shared) (H : Hp) (D : Addr) (cl : List (Str × Addr)) (fp : List Addr), PTs (X.blk s H scope (compEnvC scope cl D X.env) fp) ifs (tT X.K (wE F C c'))) ∧
        (∀ (s : Shared) (H : Hp) (D : Addr) (cl : List (Str × Addr)) (fp : List Addr), PE (X.blk s H scope (compEnvC scope cl D X.env) fp) elt (tW X.K (wE F C b'))) ∧ ∀ x, foldedSetIterable iter X.env x = pure x := by
  rcases gs with _ | ⟨⟨tg, iter, ifs, a⟩, _ | ⟨g2, gs⟩⟩
  · simp [toE] at h
  · by_cases ha0 : ¬ a = 0
    · unfold toE at h
      split at h <;> simp_all
    · obtain rfl : a = 0 := by omega
      have ih := sound_E c n
      simp only [toE] at h
      obtain ⟨tn, h1, h⟩ := opt_bind h
      obtain ⟨is, h2, h⟩ := opt_bind h
      obtain ⟨t, h3, h⟩ := opt_bind h
      obtain ⟨it', h4, h⟩ := opt_bind h
      obtain ⟨c', h5, h⟩ := opt_bind h
      obtain ⟨b', h6, h⟩ := opt_bind h
      obtain ⟨tb, xs⟩ := tn
      split at h
      · rename_i hb
        cases h
        have i4 : SI c sc tg iter it' := toIt_ok ih h4
        refine ⟨tg, iter, ifs, xs.zip is, t, it', c', b', rfl, rfl, fun i hi => ?_, fun X F C k ok => ⟨i4.pi X F C k ok, by rw [ok.eN, ok.esc]; exact blkOk_by hb.1, fun s H D cl fp => ?_, fun s H D cl fp => ?_, fun s H D cl fp => (ih _ _ _ _ h6).pe _ F C k (ok.blk s H scope cl D fp), folded_ok i4.ns⟩⟩
        · rw [ixs_zip h2]
          rw [ttOf_ix h3] at hi
          exact hi
        · exact (tg_ok (X := X.blk s H scope (compEnvC scope cl D X.env) fp) ok.calm ok.nd h1 (by show ixs X.N xs = _; rw [ok.eN]; exact h2) h3 fun x hx => cstB_ok ok.esc (List.all_eq_true.mp hb.2 x hx)).1
        · split at h5
          · cases h5
            exact sts_nil
          · split at h5
            · rename_i ht
              exact pts_one ((ih _ _ _ _ h5).pt ⟨50, ht⟩ _ F C k (ok.blk s H scope cl D fp))
            · cases h5
          · cases h5
      · cases h
  · simp [toE] at h
/-- y = [..], stored from within the block -/
theorem set_lc {c : Cs} {sc : Scope} {up fz own : Bool} {n i : Nat} {x : Str} {p spos : Pos} {e : Expr} {e' : E} (hl : lcB sc x p e = some true) (hi : ix c.N x = some i) (he : toE c (n + 1) up sc e = some e') : SS c sc (.Assign [.Name x p] e spos) (.set fz own i e') := by
  intro X F C k ok cs
  unfold lcB at hl
  split at hl
  · rename_i elt gs scope pos
    split at hl
    · rename_i hloc
      split at hl
      · rename_i hline
        obtain ⟨tg, iter, ifs, ow, t, it', c', b', rfl, rfl, hix, hp⟩ := lc_parts he
        obtain ⟨p1, p2, p3, p4, p5, p6⟩ := hp X F C k ok
        have hloc' : X.env.scope.names.lookup x = some .local := by rw [ok.esc]; exact hloc
        exact (ps_setLc ok.calm ok.nd (by rw [ok.eN]; exact ix_some hi) hloc' (sw_true cs.kind hloc' hline.1 hline.2) p1 p2 p3 p4 p5 p6).weak fun D σ H q => lc_sound hix ok.mF (set_sound (wE_mono ok.mF _) q)
      · cases hl
    · cases hl
    · cases hl
  · cases hl
  · cases hl
  · cases hl
theorem few1 {env : Env} {cp : Pos} {e : Expr} (h : ∀ a p, e ≠ .Starred a p) : ((backTo cp (starEach [e] env)).all (fun x => !x.1) && (backToKw cp (keywordEach [] env)).all (fun x => x.1.isSome) && decide (([e] : List Expr).length + ([] : List Keyword).length + (if ([] : List Keyword).isEmpty then 0 else 1) < 30)) = true := by
  rw [star_cons h]
  rfl
theorem few2 {env : Env} {cp : Pos} {a e : Expr} (h1 : ∀ b p, a ≠ .Starred b p) (h : ∀ a p, e ≠ .Starred a p) : ((backTo cp (starEach [a, e] env)).all (fun x => !x.1) && (backToKw cp (keywordEach [] env)).all (fun x => x.1.isSome) && decide (([a, e] : List Expr).length + ([] : List Keyword).length + (if ([] : List Keyword).isEmpty then 0 else 1) < 30)) = true := by
  rw [star_cons h1, star_cons h]
  rfl
theorem tup_ok {X : Cx} {ts : List Expr} {k1 : Nat} {p1 : Pos} {xs : List Str} {is : List Nat} (hc : X.calm = true) (hN : X.N.Nodup) (h1 : tgNames ts = some xs) (h2 : ixs X.N xs = some is) (hx : ∀ x ∈ xs, L2.Loc X.env.scope x ∧ (X.fn x = true ∨ X.env.scope.names.lookup x = some .local)) : PG X (.Tuple ts k1 p1) (gT X.K (.many is)) := by
  obtain ⟨g1, g2, g3⟩ := pgs_of hN h1 h2 hx
  exact pg_many hc g1 g2 g3
theorem isComp_sole {tg e : Expr} {l : Nat} {env : Env} (h : isComp e = false) : swapsWithSole [tg] e l env = pure false := by
  show swapsWith e (some tg) l env = pure false
  exact isComp_no h
theorem tg_each {tg : Expr} {b : Bool} {xs : List Str} {env : Env} (h : tgOf tg = some (b, xs)) : (assignEach [tg] env).map (·.2) = [assign tg env] := by
  cases tg <;> first | rfl | cases h
theorem sound_S (c : Cs) (sc : Scope) : ∀ (n : Nat) (st : Stmt) (m : S), toS c sc n st = some m → SS c sc st m
  | 0, _, _, h => by cases h
  | n + 1, st, m, h => by
    have ih := sound_S c sc n
    have iE := sound_E c 100
    unfold toS at h
    split at h
    · -- pop
      split at h
      · rename_i hm
        obtain ⟨rfl, hk, hl, hline⟩ := hm
        obtain ⟨k1, k2, k3⟩ := okName_ok hk
        obtain ⟨i, h1, h⟩ := opt_bind h
        obtain ⟨tn, h2, h⟩ := opt_bind h
        obtain ⟨is, h3, h⟩ := opt_bind h
        obtain ⟨t, h4, h⟩ := opt_bind h
        obtain ⟨tb, xs⟩ := tn
        split at h
        · rename_i ha
          cases h
          intro X F C k ok cs
          exact ss_pop (by rw [ok.eN]; exact ix_some h1) (by rw [ok.esc]; exact loc_vis (locB_ok hl)) k1 k2 (tg_ok ok.calm ok.nd h2 (by rw [ok.eN]; exact h3) h4 (all_loc ok.esc cs.fn ha)).1 hline (by rfl) (notup rfl) (tg_each h2)
        · cases h
      · cases h
    · -- x = e
      split at h
      · rename_i hl
        obtain ⟨i, h1, h⟩ := opt_bind h
        obtain ⟨e', h2, h⟩ := opt_bind h
        obtain ⟨b, h3, h⟩ := opt_bind h
        cases h
        cases b with
        | true => exact set_lc h3 h1 h2
        | false =>
          intro X F C k ok cs
          exact ss_set ok.nd (by rw [ok.eN]; exact ix_some h1) (by rw [ok.esc]; exact locB_ok hl) (wE_mono ok.mF e') ((iE _ _ _ _ h2).pe X F C k ok) (lcB_false cs.kind ok.esc h3) (.inl (cs.fn _))
      · cases h
    · -- a, b = (x, y)
      split at h
      · rename_i hw
        obtain ⟨xs, h1, h⟩ := opt_bind h
        obtain ⟨is, h2, h⟩ := opt_bind h
        obtain ⟨e', h3, h⟩ := opt_bind h
        split at h
        · rename_i ha
          cases h
          intro X F C k ok cs
          exact ss_unp (wE_mono ok.mF e') ((iE _ _ _ _ h3).pe X F C k ok) (tup_ok ok.calm ok.nd h1 (by rw [ok.eN]; exact h2) (all_loc ok.esc cs.fn ha)) (isComp_sole rfl) (swB_ok cs.kind (by rw [← ok.esc] at hw; exact hw)) rfl
        · cases h
      · rename_i names hw
        split at h
        · split at h
          · rename_i en
            subst en
            obtain ⟨i, h1, h⟩ := opt_bind h
            obtain ⟨j, h2, h⟩ := opt_bind h
            obtain ⟨es', h3, h⟩ := opt_bind h
            split at h
            · rename_i hc
              cases h
              intro X F C k ok cs
              exact ss_par2 ok.calm ok.nd (by rw [ok.eN]; exact ix_some h1) (by rw [ok.eN]; exact ix_some h2) hc.1 (by rw [ok.esc]; exact hc.2.1) (by rw [ok.esc]; exact hc.2.2) (wEs_mono ok.mF es') ((toEs_ok iE h3).pa X F C k ok) (swB_ok cs.kind (by rw [← ok.esc] at hw; exact hw))
            · cases h
          · cases h
        · split at h
          · rename_i en
            subst en
            obtain ⟨i, h1, h⟩ := opt_bind h
            obtain ⟨j, h2, h⟩ := opt_bind h
            obtain ⟨l, h4, h⟩ := opt_bind h
            obtain ⟨es', h3, h⟩ := opt_bind h
            split at h
            · rename_i hc
              cases h
              intro X F C k ok cs
              exact ss_par3 ok.calm ok.nd (by rw [ok.eN]; exact ix_some h1) (by rw [ok.eN]; exact ix_some h2) (by rw [ok.eN]; exact ix_some h4) hc.1 hc.2.1 hc.2.2.1 (by rw [ok.esc]; exact hc.2.2.2.1) (by rw [ok.esc]; exact hc.2.2.2.2.1) (by rw [ok.esc]; exact hc.2.2.2.2.2) (wEs_mono ok.mF es') ((toEs_ok iE h3).pa X F C k ok) (swB_ok cs.kind (by rw [← ok.esc] at hw; exact hw))
            · cases h
          · cases h
        · cases h
      · cases h
    · -- a, b = e
      obtain ⟨xs, h1, h⟩ := opt_bind h
      obtain ⟨is, h2, h⟩ := opt_bind h
      obtain ⟨e', h3, h⟩ := opt_bind h
      split at h
      · rename_i ha
        cases h
        intro X F C k ok cs
        exact ss_unp (wE_mono ok.mF e') ((iE _ _ _ _ h3).pe X F C k ok) (tup_ok ok.calm ok.nd h1 (by rw [ok.eN]; exact h2) (all_loc ok.esc cs.fn ha.1)) (isComp_sole ha.2.1) (notup ha.2.2) rfl
      · cases h
    · -- x[a] = e
      split at h
      · rename_i hc
        obtain ⟨k1, k2, k3⟩ := okName_ok hc.1
        obtain ⟨i, h1, h⟩ := opt_bind h
        obtain ⟨a', h2, h⟩ := opt_bind h
        obtain ⟨e', h3, h⟩ := opt_bind h
        cases h
        intro X F C k ok cs
        exact ss_seti (by rw [ok.eN]; exact ix_some h1) (by rw [ok.esc]; exact loc_vis (locB_ok hc.2.1)) k1 k2 (wE_mono ok.mF a') (wE_mono ok.mF e') ((iE _ _ _ _ h2).pe X F C k ok) ((iE _ _ _ _ h3).pe X F C k ok) (isComp_sole hc.2.2.1) (notup hc.2.2.2) rfl (by intro _; rfl)
      · cases h
    · split at h
      · rename_i hc
        obtain ⟨k1, k2, k3⟩ := okName_ok hc.1
        obtain ⟨i, h1, h⟩ := opt_bind h
        obtain ⟨a', h2, h⟩ := opt_bind h
        obtain ⟨e', h3, h⟩ := opt_bind h
        cases h
        intro X F C k ok cs
        exact ss_seti (by rw [ok.eN]; exact ix_some h1) (by rw [ok.esc]; exact loc_vis (locB_ok hc.2.1)) k1 k2 (wE_mono ok.mF a') (wE_mono ok.mF e') ((iE _ _ _ _ h2).pe X F C k ok) ((iE _ _ _ _ h3).pe X F C k ok) (isComp_sole hc.2.2.1) (notup hc.2.2.2) rfl (by intro _; rfl)
      · cases h
    · -- x.append(e), x.extend(e)
      split at h
      · rename_i hc
        obtain ⟨k1, k2, k3⟩ := okName_ok hc.1
        obtain ⟨i, h1, h⟩ := opt_bind h
        obtain ⟨e', h2, h⟩ := opt_bind h
        have ns := toE_nostar h2
        split at h
        · rename_i em
          have h9 := Option.some.inj h
          subst em
          subst h9
          intro X F C k ok cs
          exact ss_app (by rw [ok.eN]; exact ix_some h1) (by rw [ok.esc]; exact loc_vis (locB_ok hc.2.1)) k1 k2 (wE_mono ok.mF e') ((iE _ _ _ _ h2).pe X F C k ok) (star_cons ns) hc.2.2 (few1 ns)
        · split at h
          · rename_i em
            have h9 := Option.some.inj h
            subst em
            subst h9
            intro X F C k ok cs
            exact ss_ext (by rw [ok.eN]; exact ix_some h1) (by rw [ok.esc]; exact loc_vis (locB_ok hc.2.1)) k1 k2 (wE_mono ok.mF e') ((iE _ _ _ _ h2).pe X F C k ok) (star_cons ns) hc.2.2 (few1 ns)
          · cases h
      · cases h
    · -- x.insert(a, e)
      split at h
      · rename_i hc
        obtain ⟨hc1, hc2, hc3, rfl⟩ := hc
        obtain ⟨k1, k2, k3⟩ := okName_ok hc1
        obtain ⟨i, h1, h⟩ := opt_bind h
        obtain ⟨a', h2, h⟩ := opt_bind h
        obtain ⟨e', h3, h⟩ := opt_bind h
        cases h
        have na := toE_nostar h2
        have ns := toE_nostar h3
        intro X F C k ok cs
        exact ss_ins (by rw [ok.eN]; exact ix_some h1) (by rw [ok.esc]; exact loc_vis (locB_ok hc2)) k1 k2 (wE_mono ok.mF a') (wE_mono ok.mF e') ((iE _ _ _ _ h2).pe X F C k ok) ((iE _ _ _ _ h3).pe X F C k ok) (star_cons na) (star_cons ns) hc3 (few2 na ns) (star_any fun e he => by
          rcases List.mem_singleton.mp he with rfl
          exact ns)
      · cases h
    · -- if
      split at h
      · rename_i ht
        obtain ⟨t', h1, h⟩ := opt_bind h
        obtain ⟨a', h2, h⟩ := opt_bind h
        obtain ⟨b', h3, h⟩ := opt_bind h
        cases h
        intro X F C k ok cs
        exact ss_if (wE_mono ok.mF t') ((iE _ _ _ _ h1).pt ⟨50, ht⟩ X F C k ok) (toSs_ok ih h2 X F C k ok cs) (toSs_ok ih h3 X F C k ok cs)
      · cases h
    · -- while
      split at h
      · rename_i ht
        obtain ⟨t', h1, h⟩ := opt_bind h
        obtain ⟨b', h3, h⟩ := opt_bind h
        cases h
        intro X F C k ok cs
        exact ss_while cs.own (wE_mono ok.mF t') (wSs_mono ok.mF b') ((iE _ _ _ _ h1).pt ⟨50, ht⟩ X F C k ok) (toSs_ok ih h3 X F C k ok cs)
      · cases h
    · -- for
      rename_i tg itx b pos
      obtain ⟨tn, h1, h⟩ := opt_bind h
      obtain ⟨is, h2, h⟩ := opt_bind h
      obtain ⟨t, h3, h⟩ := opt_bind h
      obtain ⟨it', h4, h⟩ := opt_bind h
      obtain ⟨b', h5, h⟩ := opt_bind h
      obtain ⟨tb, xs⟩ := tn
      split at h
      · rename_i ha
        cases h
        intro X F C k ok cs
        have i4 := toIt_ok (tg := tg) iE h4
        exact ss_for ok.calm cs.own ok.mF (i4.pi X F C k ok) (tg_ok ok.calm ok.nd h1 (by rw [ok.eN]; exact h2) h3 (all_loc ok.esc cs.fn ha)).1 (toSs_ok ih h5 X F C k ok cs) (folded_ok i4.ns)
      · cases h
    · obtain ⟨e', h1, h⟩ := opt_bind h
      cases h
      intro X F C k ok cs
      exact ss_ret (wE_mono ok.mF e') ((iE _ _ _ _ h1).pe X F C k ok)
    · cases h; intro X F C k ok cs; exact ss_retn
    · cases h; intro X F C k ok cs; exact ss_pass
    · cases h; intro X F C k ok cs; exact ss_brk
    · cases h; intro X F C k ok cs; exact ss_cont
    · cases h; intro X F C k ok cs; exact ss_nev
    · split at h
      · rename_i hc
        obtain ⟨e', h1, h⟩ := opt_bind h
        cases h
        intro X F C k ok cs
        exact ss_drop (wE_mono ok.mF e') ((iE _ _ _ _ h1).pe X F C k ok) (isComp_no hc)
      · cases h
    · cases h
end Mi

set_option Elab.async false
set_option linter.all false
set_option maxRecDepth 100000
set_option maxHeartbeats 8000000
/-! A def, a law. -/
namespace Mi
open PySem PySem.Spec PyProof.Rows L2

/-- what the def x promises, where it stands -/
def Cal (P : Program) (w : World) (K : PySem.W.Frag) (mg : Str → Option Value) (base : Heap) (k : Nat) (x : Str) (n : Nat) (φ : Spc) : Prop :=
  ∃ f fd ps, mg x = some (.ref f) ∧ PySem.W.keepIn K (.ref f) = true ∧ Binds K fd ps [] ∧ FnG P w K mg base k f fd ps (spS K n φ)
theorem Cal.mono {P : Program} {w : World} {K : PySem.W.Frag} {mg : Str → Option Value} {base : Heap} {j k : Nat} {x : Str} {n : Nat} {φ : Spc} (c : Cal P w K mg base j x n φ) (h : j ≤ k) : Cal P w K mg base k x n φ := by
  obtain ⟨f, fd, ps, a, b, d, e⟩ := c
  exact ⟨f, fd, ps, a, b, d, e.mono h⟩
/-- the callees -/
inductive Cals (P : Program) (w : World) (K : PySem.W.Frag) (mg : Str → Option Value) (base : Heap) (k : Nat) : List (Str × Nat) → List Spc → Prop
  | nil : Cals P w K mg base k [] []
  | cons {x n φ xs φs} : MonoS φ → Cal P w K mg base k x n φ → Cals P w K mg base k xs φs → Cals P w K mg base k ((x, n) :: xs) (φ :: φs)
def FL (φs : List Spc) (j : Nat) : Spc := φs.getD j fun _ _ => False
def CL (ds : List PyData) (j : Nat) : PyData := ds.getD j .none
theorem Cals.mF {P : Program} {w : World} {K : PySem.W.Frag} {mg : Str → Option Value} {base : Heap} {k : Nat} : ∀ {fn : List (Str × Nat)} {φs : List Spc}, Cals P w K mg base k fn φs → ∀ j, MonoS (FL φs j)
  | _, _, .nil, j => fun _ _ _ _ h => (by cases j <;> exact (h : False).elim)
  | _, _, .cons m _ t, 0 => m
  | _, _, .cons m _ t, j + 1 => Cals.mF t j
theorem Cals.get {P : Program} {w : World} {K : PySem.W.Frag} {mg : Str → Option Value} {base : Heap} {k : Nat} : ∀ {fn : List (Str × Nat)} {φs : List Spc}, Cals P w K mg base k fn φs → ∀ (j : Nat) (x : Str) (n : Nat), fn[j]? = some (x, n) → Cal P w K mg base k x n (FL φs j)
  | _, _, .nil, j, x, n, h => by simp at h
  | _, _, .cons m c t, 0, x, n, h => by simp at h; obtain ⟨rfl, rfl⟩ := h; exact c
  | _, _, .cons m c t, j + 1, x, n, h => Cals.get t j x n (by simpa using h)
/-- constants of the module -/
inductive Cons (K : PySem.W.Frag) (mg : Str → Option Value) : List Str → List PyData → Prop
  | nil : Cons K mg [] []
  | cons {x v u d xs ds} : mg x = some u → RelV v u → (∀ G, Rp K G v d) → Cons K mg xs ds → Cons K mg (x :: xs) (d :: ds)
theorem Cons.get {K : PySem.W.Frag} {mg : Str → Option Value} : ∀ {cn : List Str} {ds : List PyData}, Cons K mg cn ds → ∀ (j : Nat) (x : Str), cn[j]? = some x → ∃ v u, mg x = some u ∧ RelV v u ∧ ∀ G, Rp K G v (CL ds j)
  | _, _, .nil, j, x, h => by simp at h
  | _, _, .cons a b c t, 0, x, h => by simp at h; subst h; exact ⟨_, _, a, b, c⟩
  | _, _, .cons a b c t, j + 1, x, h => Cons.get t j x (by simpa using h)
abbrev blts : List Str := ["len", "abs", "int", "max", "min", "sum", "tuple", "list", "repr", "isinstance", "range", "reversed", "sorted", "set", "str", "bool"]

theorem rel_start {K : PySem.W.Frag} {G H : Hp} {vs : List V} {ds : List PyData} (n : Nat) (s : Same G H) (nl : ∀ a o, H a = some o → NL o → G a = some o) (r : RpAll K G vs ds) :
    Rel K G H (ds.map (fun d => some ⟨false, d⟩) ++ List.replicate (n - ds.length) none) G H (vs.map some ++ List.replicate (n - vs.length) none) := by
  have hl := r.length
  have get : ∀ (i : Nat) (s : Slot), (ds.map (fun d => some (⟨false, d⟩ : Slot)) ++ List.replicate (n - ds.length) none)[i]? = some (some s) → ∃ d, ds[i]? = some d ∧ s = ⟨false, d⟩ := fun i s h => by
    by_cases hi : i < ds.length
    · rw [List.getElem?_append_left (by simpa using hi), List.getElem?_map, List.getElem?_eq_getElem hi] at h
      exact ⟨_, List.getElem?_eq_getElem hi, by simpa using h.symm⟩
    · rw [List.getElem?_append_right (by simpa using hi), List.getElem?_replicate] at h
      split at h <;> cases h
  refine ⟨.refl s nl, by simp [hl], fun i s h => ?_, fun i j s s' l _ h1 h2 o1 _ _ => ?_⟩
  · obtain ⟨d, e, rfl⟩ := get i s h
    obtain ⟨v, e2, rv⟩ := r.get e
    refine ⟨v, ?_, ?_⟩
    · have hi : i < vs.length := (List.getElem?_eq_some_iff.mp e2).1
      rw [List.getElem?_append_left (by simpa using hi), List.getElem?_map, e2]
      rfl
    · unfold SlotOk
      rw [if_neg (show ¬ (false = true) by decide)]
      exact rv
  · obtain ⟨d, e, rfl⟩ := get i s h1
    cases o1
/-- THE RULE for a def -/
theorem def_fn {P : Program} {w : World} {K : PySem.W.Frag} {mg : Str → Option Value} {base : Heap} {k : Nat} {x qual : Str} {st : Stmt} {f : Addr} {fd : FuncData} {ps : List Str} {c : Cs} {m : Ss} {φs : List Spc} {cs : List PyData} {φ : Spc}
    (F : Fun K x qual st f fd) (S : FnScope c.N ps (defScope st)) (hc : toSs (toS c (defScope st) 100) (defBody st) = some m)
    (hf : Cals P w K mg base k c.fn φs) (hn : Cons K mg c.cn cs) (hbl : ∀ x ∈ blts, mg x = none)
    (h : ∀ ds Q, φ ds Q → wDef (FL φs) (CL cs) m c.N.length ds Q) : FnG P w K mg base (k + 1) f fd ps (spS K ps.length φ) := by
  refine fnG_body F S (fun vs H Q E h => h.1) (fun cdv A outer s H vs Q E hgd hr hsp => ?_)
  obtain ⟨hl, G, ds, sG, nl, r, hφ⟩ := hsp
  have ok : Cok (cxOf CX0 P w K mg base c.N qual (defScope st) f cdv A outer s H E).nox c.N (defScope st) c.fn c.cn (FL φs) (CL cs) k :=
    ⟨rfl, S.nd, rfl, rfl, hf.mF, fun j y n hj => hf.get j y n hj, hn.get, hbl, hr, hgd⟩
  have cst : Cst (cxOf CX0 P w K mg base c.N qual (defScope st) f cdv A outer s H E).nox := ⟨fun _ => rfl, S.kind, PassesOwn.never⟩
  refine ⟨_, toSs_ok (sound_S c (defScope st) 100) hc _ (FL φs) (CL cs) k ok cst, G, H, _, G, rel_start c.N.length sG nl r, ?_⟩
  have h0 := h ds _ hφ
  unfold wDef at h0
  refine wSs_mono hf.mF m _ _ _ ?_ h0
  exact ⟨fun en q σ' G' H' r' => q .non G' H' r'.ext .non, fun d q v G' H' e rv => q v G' H' e rv, fun en q => False.elim q, fun en q => False.elim q⟩
theorem def_ok {P : Program} {w : World} {K : PySem.W.Frag} {mg : Str → Option Value} {base : Heap} {k : Nat} {x qual : Str} {st : Stmt} {f : Addr} {fd : FuncData} {ps : List Str} {c : Cs} {m : Ss} {φs : List Spc} {cs : List PyData} {φ : Spc} {n : Nat}
    (F : Fun K x qual st f fd) (S : FnScope c.N ps (defScope st)) (hc : toSs (toS c (defScope st) 100) (defBody st) = some m) (hx : mg x = some (.ref f)) (hps : ps.length = n)
    (hb : ∀ (kV doc pm : Value) (an : Option Addr) (cdv ct : Value) (us : List Value), us.length = ps.length → bindArgs (PySem.W.fnOf x qual (defArgs st) (defBody st) (defScope st) .none kV doc pm an cdv ct) ⟨us, []⟩ = pure (ps.zip us))
    (hf : Cals P w K mg base k c.fn φs) (hn : Cons K mg c.cn cs) (hbl : ∀ x ∈ blts, mg x = none)
    (h : ∀ ds Q, φ ds Q → wDef (FL φs) (CL cs) m c.N.length ds Q) : Cal P w K mg base (k + 1) x n φ := by
  subst hps
  exact ⟨f, fd, ps, hx, F.kp, F.binds hb, def_fn F S hc hf hn hbl h⟩
/-- THE LAW -/
def spLaw (K : PySem.W.Frag) : Sp := fun vs H Q _ => ∃ (a : Addr) (ns : List Int), vs = [.ref a] ∧ SqL K H a (ns.map V.int) ∧ ns.length ≤ 63 ∧ ∀ H', Q (.bl true) H'
abbrev scrD (ns : List Int) : PyData := .dict [(.none, .list (ns.map PyData.int))]
def φLaw : Spc := fun ds Q => ∃ ns : List Int, ds = [scrD ns] ∧ ns.length ≤ 63 ∧ Q (.bool true)
theorem law_ok {P : Program} {w : World} {K : PySem.W.Frag} {mg : Str → Option Value} {base : Heap} {k : Nat} {f : Addr} {fd : FuncData} {ps : List Str} (c : FnG P w K mg base k f fd ps (spS K 1 φLaw)) : FnG P w K mg base k f fd ps (spLaw K) := by
  refine c.imp fun vs H Q E h => ?_
  obtain ⟨a, ns, rfl, hS, hl, q⟩ := h
  refine ⟨rfl, H, [scrD ns], .refl H, fun a o h _ => h, .cons (.scr hS) .nil, ns, rfl, hl, fun v G' H' e r => ?_⟩
  cases r
  exact q H'
end Mi

set_option Elab.async false
set_option linter.all false
/-! Lengths p + q sqrt d as pairs of fractions; their triples. -/
namespace Mi
open PySem

structure QD (d : Int) where
  a : Rat
  b : Rat
namespace QD
variable {d : Int}
@[ext] theorem ext {x y : QD d} (h1 : x.a = y.a) (h2 : x.b = y.b) : x = y := by cases x; cases y; cases h1; cases h2; rfl
instance : Add (QD d) := ⟨fun x y => ⟨x.a + y.a, x.b + y.b⟩⟩
instance : Mul (QD d) := ⟨fun x y => ⟨x.a * y.a + d * x.b * y.b, x.a * y.b + x.b * y.a⟩⟩
instance : Neg (QD d) := ⟨fun x => ⟨-x.a, -x.b⟩⟩
instance : Sub (QD d) := ⟨fun x y => ⟨x.a - y.a, x.b - y.b⟩⟩
def ofR (r : Rat) : QD d := ⟨r, 0⟩
instance : NatCast (QD d) := ⟨fun n => ofR n⟩
instance : IntCast (QD d) := ⟨fun n => ofR n⟩
instance (n : Nat) : OfNat (QD d) n := ⟨ofR n⟩
instance : SMul Nat (QD d) := ⟨fun n x => ofR n * x⟩
instance : SMul Int (QD d) := ⟨fun n x => ofR n * x⟩
def npow (x : QD d) : Nat → QD d
  | 0 => 1
  | n + 1 => npow x n * x
instance : HPow (QD d) Nat (QD d) := ⟨npow⟩
@[simp] theorem add_a (x y : QD d) : (x + y).a = x.a + y.a := rfl
@[simp] theorem add_b (x y : QD d) : (x + y).b = x.b + y.b := rfl
@[simp] theorem mul_a (x y : QD d) : (x * y).a = x.a * y.a + d * x.b * y.b := rfl
@[simp] theorem mul_b (x y : QD d) : (x * y).b = x.a * y.b + x.b * y.a := rfl
@[simp] theorem neg_a (x : QD d) : (-x).a = -x.a := rfl
@[simp] theorem neg_b (x : QD d) : (-x).b = -x.b := rfl
@[simp] theorem sub_a (x y : QD d) : (x - y).a = x.a - y.a := rfl
@[simp] theorem sub_b (x y : QD d) : (x - y).b = x.b - y.b := rfl
@[simp] theorem zero_a : (0 : QD d).a = 0 := rfl
@[simp] theorem zero_b : (0 : QD d).b = 0 := rfl
@[simp] theorem one_a : (1 : QD d).a = 1 := rfl
@[simp] theorem one_b : (1 : QD d).b = 0 := rfl
@[simp] theorem ofR_a (r : Rat) : (ofR r : QD d).a = r := rfl
@[simp] theorem ofR_b (r : Rat) : (ofR r : QD d).b = 0 := rfl
instance : Lean.Grind.CommRing (QD d) where
  add_zero x := by ext <;> simp <;> grind
  add_comm x y := by ext <;> simp <;> grind
  add_assoc x y z := by ext <;> simp <;> grind
  mul_assoc x y z := by ext <;> simp <;> grind
  mul_comm x y := by ext <;> simp <;> grind
  mul_one x := by ext <;> simp <;> grind
  one_mul x := by ext <;> simp <;> grind
  left_distrib x y z := by ext <;> simp <;> grind
  right_distrib x y z := by ext <;> simp <;> grind
  zero_mul x := by ext <;> simp <;> grind
  mul_zero x := by ext <;> simp <;> grind
  pow_zero x := rfl
  pow_succ x n := rfl
  ofNat_succ n := by
    show ofR ((n + 1 : Nat) : Rat) = ofR (n : Rat) + ofR 1
    ext <;> simp <;> grind
  neg_add_cancel x := by ext <;> simp <;> grind
  sub_eq_add_neg x y := by ext <;> simp <;> grind
  neg_zsmul i x := by
    show ofR ((-i : Int) : Rat) * x = -(ofR (i : Rat) * x)
    ext <;> simp <;> grind
  zsmul_natCast_eq_nsmul n x := rfl
  intCast_neg i := by
    show ofR ((-i : Int) : Rat) = -(ofR (i : Rat))
    ext <;> simp
/-- the twin -/
def tw (x : QD d) : QD d := ⟨x.a, -x.b⟩
@[simp] theorem tw_a (x : QD d) : x.tw.a = x.a := rfl
@[simp] theorem tw_b (x : QD d) : x.tw.b = -x.b := rfl
/-- the norm -/
def nm (x : QD d) : Rat := x.a * x.a - d * x.b * x.b
def inv (x : QD d) : QD d := ⟨x.a / x.nm, -x.b / x.nm⟩
instance : Inv (QD d) := ⟨inv⟩
instance : Div (QD d) := ⟨fun x y => x * y⁻¹⟩
@[simp] theorem inv_a (x : QD d) : (x⁻¹).a = x.a / x.nm := rfl
@[simp] theorem inv_b (x : QD d) : (x⁻¹).b = -x.b / x.nm := rfl
theorem div_def (x y : QD d) : x / y = x * y⁻¹ := rfl
end QD

/-! ### the roots -/
abbrev rootL : List Int := [2, 3, 5, 6, 7, 10, 13, 50]
class Rt (d : Int) : Prop where
  mem : d ∈ rootL
/-- between the squares of k and k + 1 -/
theorem Rt.sq {d : Int} [h : Rt d] : ∃ k : Int, 0 < k ∧ k * k < d ∧ d < (k + 1) * (k + 1) := by
  have := h.mem
  simp only [rootL, List.mem_cons, List.not_mem_nil, or_false] at this
  rcases this with rfl | rfl | rfl | rfl | rfl | rfl | rfl | rfl
  · exact ⟨1, by decide⟩
  · exact ⟨1, by decide⟩
  · exact ⟨2, by decide⟩
  · exact ⟨2, by decide⟩
  · exact ⟨2, by decide⟩
  · exact ⟨3, by decide⟩
  · exact ⟨3, by decide⟩
  · exact ⟨7, by decide⟩
theorem Rt.pos {d : Int} [h : Rt d] : 0 < d ∧ d ≤ 50 := by
  have := h.mem
  simp only [rootL, List.mem_cons, List.not_mem_nil, or_false] at this
  rcases this with rfl | rfl | rfl | rfl | rfl | rfl | rfl | rfl <;> decide
theorem lt_of_sq_lt {a b : Int} (hb : 0 ≤ b) (h : a * a < b * b) : a < b := by
  apply Int.lt_of_not_ge
  intro c
  have := Int.mul_le_mul c c hb (by omega)
  omega
theorem irr_aux (d k : Int) (h0 : 0 < k) (h1 : k * k < d) (h2 : d < (k + 1) * (k + 1)) : ∀ (n : Nat) (p q : Int), q.toNat ≤ n → 0 < q → 0 < p → p * p = d * (q * q) → False
  | 0, p, q, hn, hq, _, _ => by omega
  | n + 1, p, q, hn, hq, hp, e => by
    have qq : 0 < q * q := Int.mul_pos hq hq
    have l1 : k * q < p := lt_of_sq_lt (by omega) (by
      have := Int.mul_lt_mul_of_pos_right h1 qq
      grind)
    have l2 : p < (k + 1) * q := lt_of_sq_lt (Int.le_of_lt (Int.mul_pos (by omega) hq)) (by
      have := Int.mul_lt_mul_of_pos_right h2 qq
      grind)
    have l3 : (k + 1) * q = k * q + q := by grind
    refine irr_aux d k h0 h1 h2 n (d * q - k * p) (p - k * q) (by omega) (by omega) ?_ (by grind)
    -- k p < d q
    have : k * p < d * q := by
      have a1 : k * p * q < d * q * q := by
        have : p * (k * q) < p * p := Int.mul_lt_mul_of_pos_left l1 hp
        grind
      exact Int.lt_of_mul_lt_mul_right a1 (by omega)
    omega
theorem irr {d : Int} [Rt d] {p q : Int} (h : p * p = d * (q * q)) : p = 0 ∧ q = 0 := by
  obtain ⟨k, h0, h1, h2⟩ := Rt.sq (d := d)
  by_cases hq : q = 0
  · subst hq
    refine ⟨?_, rfl⟩
    have : p * p = 0 := by rw [h]; simp
    rcases Int.mul_eq_zero.mp this with h | h <;> exact h
  · exfalso
    have nn : ∀ z : Int, (z.natAbs : Int) * z.natAbs = z * z := fun z => by rw [← Int.natCast_mul, Int.natAbs_mul_self]
    have hp : p ≠ 0 := by
      rintro rfl
      have : 0 < q * q := by
        rcases Int.lt_or_gt_of_ne hq with c | c
        · have := Int.mul_pos_of_neg_of_neg c c; omega
        · exact Int.mul_pos c c
      have := Int.mul_pos (Rt.pos (d := d)).1 this
      omega
    refine irr_aux d k h0 h1 h2 (q.natAbs : Int).toNat p.natAbs q.natAbs (Nat.le_refl _) (by omega) (by omega) ?_
    rw [nn, nn, h]
namespace QD
variable {d : Int}
theorem rat_num (r : Rat) : r = (r.num : Rat) / (r.den : Int) := by
  have := Rat.num_divInt_den r
  rw [Rat.divInt_eq_div] at this
  exact this.symm
theorem cast_ne {z : Int} (h : z ≠ 0) : (z : Rat) ≠ 0 := fun e => h (by
  have e2 : (z : Rat) = ((0 : Int) : Rat) := e
  exact Rat.intCast_inj.mp e2)
theorem nm_eq_zero [Rt d] {x : QD d} (h : x.nm = 0) : x = 0 := by
  have ha := rat_num x.a
  have hb := rat_num x.b
  have da : ((x.a.den : Int) : Rat) ≠ 0 := cast_ne (by have := x.a.den_nz; omega)
  have db : ((x.b.den : Int) : Rat) ≠ 0 := cast_ne (by have := x.b.den_nz; omega)
  have e : x.a * x.a = d * (x.b * x.b) := by unfold nm at h; grind
  have key : (x.a.num * x.b.den) * (x.a.num * x.b.den) = d * ((x.b.num * x.a.den) * (x.b.num * x.a.den)) := by
    rw [← Rat.intCast_inj]
    simp only [Rat.intCast_mul]
    generalize (x.a.num : Rat) = na at *
    generalize (x.b.num : Rat) = nb at *
    generalize ((x.a.den : Int) : Rat) = ua at *
    generalize ((x.b.den : Int) : Rat) = ub at *
    rw [ha, hb] at e
    grind
  obtain ⟨k1, k2⟩ := irr key
  ext
  · rcases Int.mul_eq_zero.mp k1 with h | h
    · exact Rat.num_eq_zero.mp h
    · exact absurd h (by have := x.b.den_nz; omega)
  · rcases Int.mul_eq_zero.mp k2 with h | h
    · exact Rat.num_eq_zero.mp h
    · exact absurd h (by have := x.a.den_nz; omega)
theorem mul_inv [Rt d] {x : QD d} (h : x ≠ 0) : x * x⁻¹ = 1 := by
  have hn : x.nm ≠ 0 := fun e => h (nm_eq_zero e)
  have e : x.nm = x.a * x.a - d * x.b * x.b := rfl
  ext <;> simp <;> grind
instance [Rt d] : Lean.Grind.Field (QD d) where
  div_eq_mul_inv x y := rfl
  zero_ne_one h := by
    have := congrArg QD.a h
    simp at this
  inv_zero := by ext <;> simp [nm] <;> grind
  mul_inv_cancel h := mul_inv h
  zpow := ⟨fun x i => match i with
    | .ofNat n => x ^ n
    | .negSucc n => (x ^ (n + 1))⁻¹⟩
  zpow_zero x := rfl
  zpow_succ x n := rfl
  zpow_neg x n := by
    cases n with
    | ofNat n =>
      cases n with
      | zero =>
        show (1 : QD d) = (1 : QD d)⁻¹
        ext <;> simp [nm] <;> grind
      | succ n => rfl
    | negSucc n =>
      show x ^ (n + 1) = ((x ^ (n + 1))⁻¹)⁻¹
      generalize x ^ (n + 1) = y
      by_cases hy : y.nm = 0
      · rw [nm_eq_zero hy]
        ext <;> simp [nm] <;> grind
      · have e : y.nm = y.a * y.a - d * y.b * y.b := rfl
        have e2 : (y⁻¹).nm = 1 / y.nm := by
          unfold nm at *
          simp [nm]
          grind
        ext <;> simp [e2] <;> grind
end QD
end Mi

set_option Elab.async false
set_option linter.all false
/-! The triple of a length, its size. -/
namespace Mi
open PySem
namespace QD
variable {d : Int}
def mkQ (p q s : Int) : QD d := ⟨(p : Rat) / s, (q : Rat) / s⟩
def g3 (p q s : Int) : Int := (Int.gcd (Int.gcd p q) s : Nat)
def gs (p q s : Int) : Int := if s < 0 then -g3 p q s else g3 p q s
def nrm (p q s : Int) : Int × Int × Int := (p / gs p q s, q / gs p q s, s / gs p q s)
structure Is (x : QD d) (p q s : Int) : Prop where
  pos : 0 < s
  one : g3 p q s = 1
  ha : (p : Rat) = x.a * s
  hb : (q : Rat) = x.b * s
theorem g3_dvd (p q s : Int) : g3 p q s ∣ p ∧ g3 p q s ∣ q ∧ g3 p q s ∣ s := by
  unfold g3
  have h1 : ((Int.gcd (Int.gcd p q) s : Nat) : Int) ∣ (Int.gcd p q : Nat) := Int.gcd_dvd_left ..
  exact ⟨Int.dvd_trans h1 (Int.gcd_dvd_left ..), Int.dvd_trans h1 (Int.gcd_dvd_right ..), Int.gcd_dvd_right ..⟩
theorem g3_pos {p q s : Int} (h : s ≠ 0) : 0 < g3 p q s := by
  unfold g3
  have : Int.gcd (Int.gcd p q) s ≠ 0 := fun e => h (Int.gcd_eq_zero_iff.mp e).2
  omega
theorem dvd_g3 {p q s k : Int} (h1 : k ∣ p) (h2 : k ∣ q) (h3 : k ∣ s) : k ∣ g3 p q s := Int.dvd_coe_gcd (Int.dvd_coe_gcd h1 h2) h3
theorem gs_dvd (p q s : Int) : gs p q s ∣ p ∧ gs p q s ∣ q ∧ gs p q s ∣ s := by
  obtain ⟨a, b, c⟩ := g3_dvd p q s
  unfold gs
  split
  · exact ⟨Int.neg_dvd.mpr a, Int.neg_dvd.mpr b, Int.neg_dvd.mpr c⟩
  · exact ⟨a, b, c⟩
theorem gs_ne {p q s : Int} (h : s ≠ 0) : gs p q s ≠ 0 := by
  have := g3_pos (p := p) (q := q) h
  unfold gs
  split <;> omega
theorem unit_of {k : Int} (h : k ∣ 1) (h0 : 0 ≤ k) : k = 1 := Int.eq_one_of_dvd_one h0 h
theorem nrm_is (p q s : Int) (hs : s ≠ 0) : Is (mkQ p q s : QD d) (nrm p q s).1 (nrm p q s).2.1 (nrm p q s).2.2 := by
  obtain ⟨⟨a, ha⟩, ⟨b, hb⟩, ⟨c, hc⟩⟩ := gs_dvd p q s
  have hg := gs_ne (p := p) (q := q) hs
  have e1 : p / gs p q s = a := Int.ediv_eq_of_eq_mul_right hg ha
  have e2 : q / gs p q s = b := Int.ediv_eq_of_eq_mul_right hg hb
  have e3 : s / gs p q s = c := Int.ediv_eq_of_eq_mul_right hg hc
  show Is (mkQ p q s : QD d) (p / gs p q s) (q / gs p q s) (s / gs p q s)
  rw [e1, e2, e3]
  have hg3 := g3_pos (p := p) (q := q) hs
  have abs : gs p q s = g3 p q s ∨ gs p q s = -g3 p q s := by unfold gs; split <;> simp
  have hc0 : c ≠ 0 := by rintro rfl; simp at hc; exact hs hc
  have hcp : 0 < c := by
    by_cases h : s < 0
    · have e : gs p q s = -g3 p q s := if_pos h
      rw [e] at hc
      apply Int.lt_of_not_ge
      intro h0
      have : 0 ≤ g3 p q s * (-c) := Int.mul_nonneg (by omega) (by omega)
      have : -g3 p q s * c = g3 p q s * (-c) := by grind
      omega
    · have e : gs p q s = g3 p q s := if_neg h
      rw [e] at hc
      apply Int.lt_of_not_ge
      intro h0
      have : 0 ≤ g3 p q s * (-c) := Int.mul_nonneg (by omega) (by omega)
      have : g3 p q s * (-c) = -(g3 p q s * c) := by grind
      omega
  have cs : (s : Rat) = gs p q s * c := by rw [← Rat.intCast_mul, ← hc]
  have cp : (p : Rat) = gs p q s * a := by rw [← Rat.intCast_mul, ← ha]
  have cq : (q : Rat) = gs p q s * b := by rw [← Rat.intCast_mul, ← hb]
  have hsr := cast_ne hs
  have hgr := cast_ne hg
  have hcr := cast_ne hc0
  refine ⟨hcp, ?_, ?_, ?_⟩
  · -- what divides a, b, c, times the gcd divides p, q, s
    obtain ⟨⟨u, hu⟩, ⟨v, hv⟩, ⟨w, hw⟩⟩ := g3_dvd a b c
    have k : g3 p q s * g3 a b c ∣ g3 p q s := by
      have up : ∀ z y t : Int, z = gs p q s * y → y = g3 a b c * t → g3 p q s * g3 a b c ∣ z := fun z y t e1 e2 => by
        rcases abs with h | h
        · exact ⟨t, by rw [e1, h, e2]; grind⟩
        · exact ⟨-t, by rw [e1, h, e2]; grind⟩
      exact dvd_g3 (up _ _ _ ha hu) (up _ _ _ hb hv) (up _ _ _ hc hw)
    obtain ⟨t, ht⟩ := k
    have : g3 a b c ∣ 1 := ⟨t, by
      have : g3 p q s * 1 = g3 p q s * (g3 a b c * t) := by grind
      exact Int.eq_of_mul_eq_mul_left (by omega) this⟩
    exact unit_of this (by unfold g3; omega)
  · show (a : Rat) = (p : Rat) / s * c
    grind
  · show (b : Rat) = (q : Rat) / s * c
    grind
theorem Is.dvd {x : QD d} {p q s p' q' s' : Int} (h : Is x p q s) (h' : Is x p' q' s') : s ∣ s' := by
  have e1 : p * s' = p' * s := by
    rw [← Rat.intCast_inj]
    simp only [Rat.intCast_mul]
    have := h.ha
    have := h'.ha
    grind
  have e2 : q * s' = q' * s := by
    rw [← Rat.intCast_inj]
    simp only [Rat.intCast_mul]
    have := h.hb
    have := h'.hb
    grind
  have k1 : s ∣ p * s' := ⟨p', by rw [e1]; grind⟩
  have k2 : s ∣ q * s' := ⟨q', by rw [e2]; grind⟩
  have k3 : s ∣ s * s' := ⟨s', rfl⟩
  -- s divides the gcd of the three
  have m1 : ((Int.gcd (p * s') (q * s') : Nat) : Int) = (Int.gcd p q : Nat) * (s'.natAbs : Int) := by
    rw [Int.gcd_mul_right]; rfl
  have m2 : s ∣ ((Int.gcd ((Int.gcd p q : Nat) * (s'.natAbs : Int)) (s * (s'.natAbs : Int)) : Nat) : Int) := by
    refine Int.dvd_coe_gcd ?_ ⟨_, rfl⟩
    rw [← m1]
    exact Int.dvd_coe_gcd k1 k2
  rw [Int.gcd_mul_right] at m2
  have one : Int.gcd (Int.gcd p q) s = 1 := by
    have := h.one
    unfold g3 at this
    omega
  rw [one] at m2
  have e : ((1 * (s'.natAbs : Int).natAbs : Nat) : Int) = s' := by
    have := h'.pos
    omega
  rw [e] at m2
  exact m2
theorem Is.unique {x : QD d} {p q s p' q' s' : Int} (h : Is x p q s) (h' : Is x p' q' s') : p = p' ∧ q = q' ∧ s = s' := by
  have e : s = s' := Int.dvd_antisymm (Int.le_of_lt h.pos) (Int.le_of_lt h'.pos) (h.dvd h') (h'.dvd h)
  subst e
  refine ⟨?_, ?_, rfl⟩
  · rw [← Rat.intCast_inj, h.ha, h'.ha]
  · rw [← Rat.intCast_inj, h.hb, h'.hb]
def enc (x : QD d) : Int × Int × Int := nrm (x.a.num * x.b.den) (x.b.num * x.a.den) (x.a.den * x.b.den)
def p (x : QD d) : Int := (enc x).1
def q (x : QD d) : Int := (enc x).2.1
def s (x : QD d) : Int := (enc x).2.2
theorem den_ne (x : QD d) : ((x.a.den : Int) * x.b.den) ≠ 0 := by
  have h1 := x.a.den_nz
  have h2 := x.b.den_nz
  have : (x.a.den : Int) ≠ 0 := by omega
  have : (x.b.den : Int) ≠ 0 := by omega
  exact Int.mul_ne_zero (by omega) (by omega)
theorem is (x : QD d) : Is x x.p x.q x.s := by
  have h := nrm_is (d := d) (x.a.num * x.b.den) (x.b.num * x.a.den) (x.a.den * x.b.den) (den_ne x)
  have e : (mkQ (x.a.num * x.b.den) (x.b.num * x.a.den) (x.a.den * x.b.den) : QD d) = x := by
    have ha := rat_num x.a
    have hb := rat_num x.b
    have da : ((x.a.den : Int) : Rat) ≠ 0 := cast_ne (by have := x.a.den_nz; omega)
    have db : ((x.b.den : Int) : Rat) ≠ 0 := cast_ne (by have := x.b.den_nz; omega)
    ext
    · show (((x.a.num * x.b.den : Int) : Rat)) / ((x.a.den * x.b.den : Int)) = x.a
      simp only [Rat.intCast_mul]
      conv => rhs; rw [ha]
      generalize (x.a.num : Rat) = na at *
      generalize ((x.a.den : Int) : Rat) = ua at *
      generalize ((x.b.den : Int) : Rat) = ub at *
      grind
    · show (((x.b.num * x.a.den : Int) : Rat)) / ((x.a.den * x.b.den : Int)) = x.b
      simp only [Rat.intCast_mul]
      conv => rhs; rw [hb]
      generalize (x.b.num : Rat) = na at *
      generalize ((x.a.den : Int) : Rat) = ua at *
      generalize ((x.b.den : Int) : Rat) = ub at *
      grind
  rw [e] at h
  exact h
theorem s_pos (x : QD d) : 0 < x.s := x.is.pos
theorem of_is {x : QD d} {p q s : Int} (h : Is x p q s) : x.p = p ∧ x.q = q ∧ x.s = s := x.is.unique h
theorem s_ne (x : QD d) : (x.s : Rat) ≠ 0 := cast_ne (by have := x.s_pos; omega)
theorem a_eq (x : QD d) : x.a = (x.p : Rat) / x.s := by have := x.is.ha; have := x.s_ne; grind
theorem b_eq (x : QD d) : x.b = (x.q : Rat) / x.s := by have := x.is.hb; have := x.s_ne; grind
theorem mkQ_self (x : QD d) : (mkQ x.p x.q x.s : QD d) = x := by
  ext
  · exact x.a_eq.symm
  · exact x.b_eq.symm
theorem enc_mk {p q s : Int} (h : s ≠ 0) : (mkQ p q s : QD d).p = (nrm p q s).1 ∧ (mkQ p q s : QD d).q = (nrm p q s).2.1 ∧ (mkQ p q s : QD d).s = (nrm p q s).2.2 := of_is (nrm_is p q s h)
theorem inj {d : Int} {x y : QD d} (h1 : x.p = y.p) (h2 : x.q = y.q) (h3 : x.s = y.s) : x = y := by rw [← x.mkQ_self, ← y.mkQ_self, h1, h2, h3]
/-- the data of a length -/
def L (x : QD d) : PyData := .tuple [.int x.p, .int x.q, .int x.s]
theorem L_inj {x y : QD d} : L x = L y ↔ x = y := by
  refine ⟨fun h => ?_, fun h => by rw [h]⟩
  unfold L at h
  simp only [PyData.tuple.injEq, List.cons.injEq, PyData.int.injEq] at h
  exact inj h.1 h.2.1 h.2.2.1

/-! ### sizes -/
structure Bd (n : Nat) (x : QD d) : Prop where
  hp : x.p.natAbs < 2 ^ n
  hq : x.q.natAbs < 2 ^ n
  hs : x.s.natAbs < 2 ^ n
theorem Bd.mono {m n : Nat} {x : QD d} (h : Bd m x) (l : m ≤ n) : Bd n x := by
  have := Nat.pow_le_pow_right (n := 2) (by decide) l
  exact ⟨Nat.lt_of_lt_of_le h.hp this, Nat.lt_of_lt_of_le h.hq this, Nat.lt_of_lt_of_le h.hs this⟩
theorem quo_le {a g : Int} (h : g ∣ a) : (a / g).natAbs ≤ a.natAbs := by
  obtain ⟨c, rfl⟩ := h
  by_cases hg : g = 0
  · subst hg; simp
  · rw [Int.mul_ediv_cancel_left _ hg, Int.natAbs_mul]
    exact Nat.le_mul_of_pos_left _ (by omega)
theorem Bd.mk' {n : Nat} {p q s : Int} (h : s ≠ 0) (hp : p.natAbs < 2 ^ n) (hq : q.natAbs < 2 ^ n) (hs : s.natAbs < 2 ^ n) : Bd n (mkQ p q s : QD d) := by
  obtain ⟨e1, e2, e3⟩ := enc_mk (d := d) (p := p) (q := q) h
  obtain ⟨d1, d2, d3⟩ := gs_dvd p q s
  refine ⟨?_, ?_, ?_⟩
  · rw [e1]; exact Nat.lt_of_le_of_lt (quo_le d1) hp
  · rw [e2]; exact Nat.lt_of_le_of_lt (quo_le d2) hq
  · rw [e3]; exact Nat.lt_of_le_of_lt (quo_le d3) hs
theorem mul_bit {a b : Int} {m n : Nat} (ha : a.natAbs < 2 ^ m) (hb : b.natAbs < 2 ^ n) : (a * b).natAbs < 2 ^ (m + n) := by
  rw [Int.natAbs_mul, Nat.pow_add]
  exact Nat.mul_lt_mul'' ha hb
theorem add_bit {a b : Int} {m : Nat} (ha : a.natAbs < 2 ^ m) (hb : b.natAbs < 2 ^ m) : (a + b).natAbs < 2 ^ (m + 1) := by
  rw [Nat.pow_succ]
  omega
theorem bit_mono {a : Int} {m n : Nat} (h : a.natAbs < 2 ^ m) (l : m ≤ n) : a.natAbs < 2 ^ n := Nat.lt_of_lt_of_le h (Nat.pow_le_pow_right (by decide) l)
theorem add_mk (x y : QD d) : x + y = mkQ (x.p * y.s + y.p * x.s) (x.q * y.s + y.q * x.s) (x.s * y.s) := by
  have h1 := x.s_ne
  have h2 := y.s_ne
  ext
  · show x.a + y.a = _ / _
    rw [x.a_eq, y.a_eq]
    simp only [Rat.intCast_mul, Rat.intCast_add]
    grind
  · show x.b + y.b = _ / _
    rw [x.b_eq, y.b_eq]
    simp only [Rat.intCast_mul, Rat.intCast_add]
    grind
theorem mul_mk (x y : QD d) : x * y = mkQ (x.p * y.p + d * x.q * y.q) (x.p * y.q + x.q * y.p) (x.s * y.s) := by
  have h1 := x.s_ne
  have h2 := y.s_ne
  ext
  · show x.a * y.a + d * x.b * y.b = _ / _
    rw [x.a_eq, y.a_eq, x.b_eq, y.b_eq]
    simp only [Rat.intCast_mul, Rat.intCast_add]
    grind
  · show x.a * y.b + x.b * y.a = _ / _
    rw [x.a_eq, y.a_eq, x.b_eq, y.b_eq]
    simp only [Rat.intCast_mul, Rat.intCast_add]
    grind
theorem ss_ne (x y : QD d) : x.s * y.s ≠ 0 := by
  have := x.s_pos
  have := y.s_pos
  exact Int.mul_ne_zero (by omega) (by omega)
theorem Bd.add {m n : Nat} {x y : QD d} (hx : Bd m x) (hy : Bd n y) : Bd (m + n + 1) (x + y) := by
  rw [add_mk]
  refine .mk' (ss_ne x y) (add_bit (mul_bit hx.hp hy.hs) ?_) (add_bit (mul_bit hx.hq hy.hs) ?_) (bit_mono (mul_bit hx.hs hy.hs) (by omega))
  · rw [Int.mul_comm]; exact mul_bit hx.hs hy.hp
  · rw [Int.mul_comm]; exact mul_bit hx.hs hy.hq
theorem root_bit [Rt d] : d.natAbs < 2 ^ 6 := by
  have := Rt.pos (d := d)
  omega
theorem Bd.mul [Rt d] {m n : Nat} {x y : QD d} (hx : Bd m x) (hy : Bd n y) : Bd (m + n + 7) (x * y) := by
  rw [mul_mk]
  refine .mk' (ss_ne x y) (add_bit (m := m + n + 6) (bit_mono (mul_bit hx.hp hy.hp) (by omega)) ?_) (bit_mono (add_bit (mul_bit hx.hp hy.hq) (mul_bit hx.hq hy.hp)) (by omega)) (bit_mono (mul_bit hx.hs hy.hs) (by omega))
  exact bit_mono (mul_bit (mul_bit root_bit hx.hq) hy.hq) (by omega)
theorem neg_mk (x : QD d) : -x = mkQ (-x.p) (-x.q) x.s := by
  have h1 := x.s_ne
  ext
  · show -x.a = _ / _
    rw [x.a_eq, Rat.intCast_neg]
    grind
  · show -x.b = _ / _
    rw [x.b_eq, Rat.intCast_neg]
    grind
theorem gcd_neg2 (p q s : Int) : g3 (-p) (-q) s = g3 p q s ∧ g3 p (-q) s = g3 p q s := by
  unfold g3
  rw [Int.neg_gcd, Int.gcd_neg]
  exact ⟨rfl, rfl⟩
theorem enc_neg (x : QD d) : (-x).p = -x.p ∧ (-x).q = -x.q ∧ (-x).s = x.s := of_is
  ⟨x.s_pos, by rw [(gcd_neg2 _ _ _).1]; exact x.is.one, by rw [Rat.intCast_neg, x.is.ha, neg_a]; grind, by rw [Rat.intCast_neg, x.is.hb, neg_b]; grind⟩
theorem enc_tw (x : QD d) : x.tw.p = x.p ∧ x.tw.q = -x.q ∧ x.tw.s = x.s := of_is
  ⟨x.s_pos, by rw [(gcd_neg2 _ _ _).2]; exact x.is.one, by rw [x.is.ha, tw_a], by rw [Rat.intCast_neg, x.is.hb, tw_b]; grind⟩
theorem Bd.neg {n : Nat} {x : QD d} (h : Bd n x) : Bd n (-x) := by
  obtain ⟨e1, e2, e3⟩ := enc_neg x
  exact ⟨by rw [e1, Int.natAbs_neg]; exact h.hp, by rw [e2, Int.natAbs_neg]; exact h.hq, by rw [e3]; exact h.hs⟩
theorem Bd.tw {n : Nat} {x : QD d} (h : Bd n x) : Bd n x.tw := by
  obtain ⟨e1, e2, e3⟩ := enc_tw x
  exact ⟨by rw [e1]; exact h.hp, by rw [e2, Int.natAbs_neg]; exact h.hq, by rw [e3]; exact h.hs⟩
theorem sub_eq (x y : QD d) : x - y = x + -y := by grind
theorem Bd.sub {m n : Nat} {x y : QD d} (hx : Bd m x) (hy : Bd n y) : Bd (m + n + 1) (x - y) := by
  rw [sub_eq]
  exact hx.add hy.neg
def nn (x : QD d) : Int := x.p * x.p - d * x.q * x.q
theorem nn_nm (x : QD d) : (x.nn : Rat) = x.nm * x.s * x.s := by
  unfold nn nm
  have h1 := x.is.ha
  have h2 := x.is.hb
  simp only [Rat.intCast_mul, Rat.intCast_sub]
  grind
theorem nn_ne [Rt d] {x : QD d} (h : x ≠ 0) : x.nn ≠ 0 := by
  intro e
  have k := x.nn_nm
  rw [e] at k
  have h1 := x.s_ne
  have h2 : x.nm ≠ 0 := fun e => h (nm_eq_zero e)
  have : ((0 : Int) : Rat) = 0 := rfl
  grind
theorem inv_mk [Rt d] {x : QD d} (h : x ≠ 0) : x⁻¹ = mkQ (x.s * x.p) (-x.s * x.q) x.nn := by
  have h1 := x.s_ne
  have k := x.nn_nm
  have h2 : x.nm ≠ 0 := fun e => h (nm_eq_zero e)
  have e1 := x.is.ha
  have e2 := x.is.hb
  ext
  · show x.a / x.nm = _ / _
    simp only [Rat.intCast_mul]
    rw [k, e1]
    grind
  · show -x.b / x.nm = _ / _
    simp only [Rat.intCast_mul, Rat.intCast_neg]
    rw [k, e2]
    grind
theorem Bd.inv [Rt d] {m : Nat} {x : QD d} (hx : Bd m x) (h : x ≠ 0) : Bd (2 * m + 7) x⁻¹ := by
  rw [inv_mk h]
  refine .mk' (nn_ne h) (bit_mono (mul_bit hx.hs hx.hp) (by omega)) (bit_mono (mul_bit (a := -x.s) (by rw [Int.natAbs_neg]; exact hx.hs) hx.hq) (by omega)) ?_
  unfold nn
  rw [Int.sub_eq_add_neg]
  refine bit_mono (add_bit (m := m + m + 6) (bit_mono (mul_bit hx.hp hx.hp) (by omega)) ?_) (by omega)
  rw [Int.natAbs_neg]
  exact bit_mono (mul_bit (mul_bit root_bit hx.hq) hx.hq) (by omega)
theorem Bd.div [Rt d] {m n : Nat} {x y : QD d} (hx : Bd m x) (hy : Bd n y) (h : y ≠ 0) : Bd (m + (2 * n + 7) + 7) (x / y) := hx.mul (hy.inv h)
end QD
end Mi

set_option Elab.async false
set_option linter.all false
set_option maxRecDepth 100000
/-! Rules for what is asked of a tree. -/
namespace Mi
open PySem
theorem fl_mono : ∀ {φs : List Spc}, (∀ φ, φ ∈ φs → MonoS φ) → ∀ j, MonoS (FL φs j)
  | [], _, j => fun _ _ _ _ h => (by cases j <;> exact (h : False).elim)
  | φ :: φs, h, 0 => h φ List.mem_cons_self
  | φ :: φs, h, j + 1 => fl_mono (fun x hx => h x (List.mem_cons_of_mem _ hx)) j
theorem ite_of {c : Bool} {A B : Prop} (h1 : c = true → A) (h2 : c = false → B) : if c = true then A else B := by
  cases c
  · exact h2 rfl
  · exact h1 rfl
section
variable {F : Nat → Spc} {C : Nat → PyData}
theorem while_fuel (mF : ∀ j, MonoS (F j)) {c : E} {b : Ss} {D : Dn} : ∀ (n m : Nat) (en : En), n ≤ m → whileW (fun en Q => wE F C c en fun d _ => boolW d Q) (wSs F C b) D n en → whileW (fun en Q => wE F C c en fun d _ => boolW d Q) (wSs F C b) D m en
  | 0, _, _, _, h => h.elim
  | n + 1, 0, _, l, h => by omega
  | n + 1, m + 1, en, l, h => by
    refine wE_mono mF c en _ _ (fun d t q => boolW_mono (fun r q => ?_) q) h
    cases r with
    | false => exact q
    | true =>
      have ih := while_fuel mF (c := c) (b := b) (D := D) n m
      refine wSs_mono mF b en _ _ ?_ q
      exact ⟨fun en' q => ih en' (by omega) q, fun d q => q, fun en' q => q, fun en' q => ih en' (by omega) q⟩
theorem whl_rule (mF : ∀ j, MonoS (F j)) {c : E} {b : Ss} {D : Dn} {en : En} (I : Nat → En → Prop) (n : Nat) (h0 : I n en)
    (step : ∀ n en, I n en → wE F C c en fun d _ => boolW d fun t => if t = true then wSs F C b en { nx := fun en' => ∃ m, m < n ∧ I m en', rt := D.rt, bk := D.nx, ct := fun en' => ∃ m, m < n ∧ I m en' } else D.nx en) : wS F C (.whl c b) en D := by
  have all : ∀ (k n : Nat) (en : En), n < k → I n en → whileW (fun en Q => wE F C c en fun d _ => boolW d Q) (wSs F C b) D k en := by
    intro k
    induction k with
    | zero => intro n en l; omega
    | succ k ih =>
      intro n en l hI
      refine wE_mono mF c en _ _ (fun d t q => boolW_mono (fun r q => ?_) q) (step n en hI)
      cases r with
      | false => exact q
      | true =>
        refine wSs_mono mF b en _ _ ?_ q
        exact ⟨fun en' ⟨m, l1, q⟩ => ih m en' (by omega) q, fun d q => q, fun en' q => q, fun en' ⟨m, l1, q⟩ => ih m en' (by omega) q⟩
  rw [wS]
  exact ⟨n + 1, all _ n en (by omega) h0⟩
theorem forW_rule {f : PyData → En → Dn → Prop} {D : Dn} (mf : ∀ d en (D D' : Dn), (∀ en, D.nx en → D'.nx en) → (∀ d, D.rt d → D'.rt d) → (∀ en, D.bk en → D'.bk en) → (∀ en, D.ct en → D'.ct en) → f d en D → f d en D')
    (I : Nat → En → Prop) : ∀ (ds : List PyData) (k : Nat) (en : En), I k en → (∀ i d en', ds[i]? = some d → I (k + i) en' → f d en' { nx := I (k + i + 1), rt := D.rt, bk := D.nx, ct := I (k + i + 1) }) → (∀ en', I (k + ds.length) en' → D.nx en') → forW f ds en D
  | [], k, en, h0, _, he => he en h0
  | d :: ds, k, en, h0, hs, he => by
    have ih : ∀ en', I (k + 1) en' → forW f ds en' D := fun en' h => forW_rule mf I ds (k + 1) en' h (fun i d en' e h => by
      have := hs (i + 1) d en' (by simpa using e) (by rw [show k + (i + 1) = k + 1 + i by omega]; exact h)
      rw [show k + (i + 1) = k + 1 + i by omega] at this
      exact this) (fun en' h => he en' (by rw [List.length_cons, show k + (ds.length + 1) = k + 1 + ds.length by omega]; exact h))
    refine mf d en { nx := I (k + 0 + 1), rt := D.rt, bk := D.nx, ct := I (k + 0 + 1) } _ ?_ ?_ ?_ ?_ (hs 0 d en rfl h0)
    · exact ih
    · exact fun _ q => q
    · exact fun _ q => q
    · exact ih
/-- a walk: I before the items from i on -/
theorem for_rule (mF : ∀ j, MonoS (F j)) {tg : Tt} {b : Ss} {D : Dn} {en : En} {ds : List PyData} (I : Nat → En → Prop) (h0 : I 0 en)
    (hs : ∀ i d en', ds[i]? = some d → I i en' → tgW tg d en' fun en'' => wSs F C b en'' { nx := I (i + 1), rt := D.rt, bk := D.nx, ct := I (i + 1) }) (he : ∀ en', I ds.length en' → D.nx en') :
    forW (fun d en' D' => tgW tg d en' fun en'' => wSs F C b en'' D') ds en D := by
  refine forW_rule (f := fun d en' D' => tgW tg d en' fun en'' => wSs F C b en'' D') (fun d en D D' h1 h2 h3 h4 w => tgW_mono (fun en' q => wSs_mono mF b en' _ _ ⟨h1, h2, h3, h4⟩ q) w) I ds 0 en h0 (fun i d en' e h => ?_) (fun en' h => he en' (by simpa using h))
  rw [Nat.zero_add] at h ⊢
  exact hs i d en' e h
/-- a comprehension: every item's answer -/
theorem comp_rule {f : PyData → (Option PyData → Prop) → Prop} (g : PyData → Option PyData) {Q : List PyData → Prop} : ∀ (ds acc : List PyData), acc.length + ds.length ≤ LIM → (∀ x, x ∈ ds → ∀ k : Option PyData → Prop, k (g x) → f x k) → Q (acc ++ ds.filterMap g) → compW f ds acc Q
  | [], acc, _, _, q => by simpa [compW] using q
  | x :: xs, acc, l, h, q => by
    refine h x List.mem_cons_self _ ?_
    cases e : g x with
    | none => exact comp_rule g xs acc (by simp at l; omega) (fun y hy => h y (List.mem_cons_of_mem _ hy)) (by rw [List.filterMap_cons_none e] at q; exact q)
    | some y =>
      rw [List.filterMap_cons_some e] at q
      exact ⟨by simp at l; omega, comp_rule g xs (acc ++ [y]) (by simp at l ⊢; omega) (fun y hy => h y (List.mem_cons_of_mem _ hy)) (by simpa using q)⟩
theorem comp_map {f : PyData → (Option PyData → Prop) → Prop} (g : PyData → PyData) {Q : List PyData → Prop} {ds : List PyData} (l : ds.length ≤ LIM) (h : ∀ x, x ∈ ds → ∀ k : Option PyData → Prop, k (some (g x)) → f x k) (q : Q (ds.map g)) : compW f ds [] Q :=
  comp_rule (fun x => some (g x)) ds [] (by simpa using l) h (by simpa using q)
end
end Mi

set_option Elab.async false
set_option linter.all false
set_option maxRecDepth 100000
set_option maxHeartbeats 2000000
/-! The package's lengths. -/
namespace Mi
open PySem
/-- common_divisor(first, second): first 0, second 1 -/
def cs_common_divisor : Cs := { N := ["first", "second"], fn := [], cn := [], ow := [] }
def m_common_divisor : Ss := (.cons (.whl (.cmp .gt (.var 1) (.con (.int 0))) (.cons (.par [0, 1] (.cons (.var 1) (.cons (.bin .mod (.var 0) (.var 1)) .nil)))
 .nil))
 (.cons (.ret (.var 0))
 .nil))

/-- common_of_three(p, q, s): p 0, q 1, s 2 -/
def cs_common_of_three : Cs := { N := ["p", "q", "s"], fn := [("common_divisor", 2)], cn := [], ow := [] }
def m_common_of_three : Ss := (.cons (.ret (.call false 0 (.cons (.call false 0 (.cons (.blt .abs (.cons (.var 0) .nil)) (.cons (.blt .abs (.cons (.var 1) .nil)) .nil))) (.cons (.blt .abs (.cons (.var 2) .nil)) .nil))))
 .nil)

/-- length(p, q, s): p 0, q 1, s 2, divisor 3 -/
def cs_length : Cs := { N := ["p", "q", "s", "divisor"], fn := [("common_of_three", 3)], cn := [], ow := [] }
def m_length : Ss := (.cons (.set false false 3 (.call false 0 (.cons (.var 0) (.cons (.var 1) (.cons (.var 2) .nil)))))
 (.cons (.ifs (.cmp .lt (.var 2) (.con (.int 0))) (.cons (.set false false 3 (.neg (.var 3)))
 .nil) .nil)
 (.cons (.ret (.tup (.cons (.bin .fdiv (.var 0) (.var 3)) (.cons (.bin .fdiv (.var 1) (.var 3)) (.cons (.bin .fdiv (.var 2) (.var 3)) .nil)))))
 .nil)))

/-- whole(p): p 0 -/
def cs_whole : Cs := { N := ["p"], fn := [], cn := [], ow := [] }
def m_whole : Ss := (.cons (.ret (.tup (.cons (.var 0) (.cons (.con (.int 0)) (.cons (.con (.int 1)) .nil)))))
 .nil)

/-- plus(first, second): first 0, second 1, p 2, q 3, s 4, other_p 5, other_q 6, other_s 7 -/
def cs_plus : Cs := { N := ["first", "second", "p", "q", "s", "other_p", "other_q", "other_s"], fn := [("length", 3)], cn := [], ow := [] }
def m_plus : Ss := (.cons (.unp false [2, 3, 4] (.var 0))
 (.cons (.unp false [5, 6, 7] (.var 1))
 (.cons (.ret (.call false 0 (.cons (.bin .add (.bin .mul (.var 2) (.var 7)) (.bin .mul (.var 5) (.var 4))) (.cons (.bin .add (.bin .mul (.var 3) (.var 7)) (.bin .mul (.var 6) (.var 4))) (.cons (.bin .mul (.var 4) (.var 7)) .nil)))))
 .nil)))

/-- negative(number): number 0, p 1, q 2, s 3 -/
def cs_negative : Cs := { N := ["number", "p", "q", "s"], fn := [], cn := [], ow := [] }
def m_negative : Ss := (.cons (.unp false [1, 2, 3] (.var 0))
 (.cons (.ret (.tup (.cons (.neg (.var 1)) (.cons (.neg (.var 2)) (.cons (.var 3) .nil)))))
 .nil))

/-- minus(first, second): first 0, second 1 -/
def cs_minus : Cs := { N := ["first", "second"], fn := [("plus", 2), ("negative", 1)], cn := [], ow := [] }
def m_minus : Ss := (.cons (.ret (.call false 0 (.cons (.var 0) (.cons (.call false 1 (.cons (.var 1) .nil)) .nil))))
 .nil)

/-- times(root, first, second): root 0, first 1, second 2, p 3, q 4, s 5, other_p 6, other_q 7, other_s 8 -/
def cs_times : Cs := { N := ["root", "first", "second", "p", "q", "s", "other_p", "other_q", "other_s"], fn := [("length", 3)], cn := [], ow := [] }
def m_times : Ss := (.cons (.unp false [3, 4, 5] (.var 1))
 (.cons (.unp false [6, 7, 8] (.var 2))
 (.cons (.ret (.call false 0 (.cons (.bin .add (.bin .mul (.var 3) (.var 6)) (.bin .mul (.bin .mul (.var 0) (.var 4)) (.var 7))) (.cons (.bin .add (.bin .mul (.var 3) (.var 7)) (.bin .mul (.var 4) (.var 6))) (.cons (.bin .mul (.var 5) (.var 8)) .nil)))))
 .nil)))

/-- twin(number): number 0, p 1, q 2, s 3 -/
def cs_twin : Cs := { N := ["number", "p", "q", "s"], fn := [], cn := [], ow := [] }
def m_twin : Ss := (.cons (.unp false [1, 2, 3] (.var 0))
 (.cons (.ret (.tup (.cons (.var 1) (.cons (.neg (.var 2)) (.cons (.var 3) .nil)))))
 .nil))

/-- inverse(root, number): root 0, number 1, p 2, q 3, s 4 -/
def cs_inverse : Cs := { N := ["root", "number", "p", "q", "s"], fn := [("length", 3)], cn := [], ow := [] }
def m_inverse : Ss := (.cons (.unp false [2, 3, 4] (.var 1))
 (.cons (.ret (.call false 0 (.cons (.bin .mul (.var 4) (.var 2)) (.cons (.bin .mul (.neg (.var 4)) (.var 3)) (.cons (.bin .sub (.bin .mul (.var 2) (.var 2)) (.bin .mul (.bin .mul (.var 0) (.var 3)) (.var 3))) .nil)))))
 .nil))

/-- over(root, first, second): root 0, first 1, second 2 -/
def cs_over : Cs := { N := ["root", "first", "second"], fn := [("times", 3), ("inverse", 2)], cn := [], ow := [] }
def m_over : Ss := (.cons (.ret (.call false 0 (.cons (.var 0) (.cons (.var 1) (.cons (.call false 1 (.cons (.var 0) (.cons (.var 2) .nil))) .nil)))))
 .nil)

theorem fz_ne : Tg.fz ≠ Tg.bo := nofun
theorem fr_ne : Tg.fr ≠ Tg.bo := nofun
def absI (i : Int) : Int := if i < 0 then -i else i
theorem absI_nn (i : Int) : 0 ≤ absI i := by unfold absI; split <;> omega
theorem absI_nat (i : Int) : (absI i).natAbs = i.natAbs := by unfold absI; split <;> omega
theorem gcd_abs (i j : Int) : Int.gcd (absI i) (absI j) = Int.gcd i j := by rw [Int.gcd, absI_nat, absI_nat]; rfl
theorem gcd_step (a b : Int) (ha : 0 ≤ a) (hb : 0 ≤ b) : Int.gcd b (a % b) = Int.gcd a b := by
  obtain ⟨m, rfl⟩ := Int.eq_ofNat_of_zero_le ha
  obtain ⟨n, rfl⟩ := Int.eq_ofNat_of_zero_le hb
  show Nat.gcd n (m % n) = Nat.gcd m n
  rw [Nat.gcd_comm m n, Nat.gcd_rec n m, Nat.gcd_comm]
theorem gcd_end (a : Int) (ha : 0 ≤ a) : ((Int.gcd a 0 : Nat) : Int) = a := by rw [Int.gcd_zero]; omega
theorem log_le {a : Int} {n : Nat} (h : a.natAbs < 2 ^ n) : a.natAbs.log2 ≤ n := by
  by_cases h0 : a.natAbs = 0
  · rw [h0]; simp
  · exact Nat.le_of_lt ((Nat.log2_lt h0).mpr h)
theorem mul_ok {a b : Int} {m n : Nat} (h : a.natAbs < 2 ^ m) (h2 : b.natAbs < 2 ^ n) (l : m + n ≤ 90000000) : mulOk a b := by
  have := log_le h
  have := log_le h2
  unfold mulOk
  omega
def φ_common_divisor : Spc := fun ds Q => ∃ i j : Int, ds = [.int i, .int j] ∧ 0 ≤ i ∧ 0 ≤ j ∧ Q (.int (Int.gcd i j : Nat))
theorem M_common_divisor : MonoS φ_common_divisor := fun _ _ _ h ⟨a, b, e, p1, p2, q⟩ => ⟨a, b, e, p1, p2, h _ q⟩
theorem c_common_divisor (C : Nat → PyData) : ∀ ds Q, φ_common_divisor ds Q → wDef (FL []) C m_common_divisor 2 ds Q := by
  rintro _ Q ⟨i, j, rfl, hi, hj, q⟩
  refine whl_rule (fl_mono (by simp)) (fun n en => ∃ a b : Int, 0 ≤ a ∧ 0 ≤ b ∧ n = b.toNat ∧ Int.gcd a b = Int.gcd i j ∧ en = [some ⟨false, .int a⟩, some ⟨false, .int b⟩]) j.toNat ⟨i, j, hi, hj, rfl, rfl, rfl⟩ (fun n en h => ?_)
  obtain ⟨a, b, ha, hb, rfl, hg, rfl⟩ := h
  refine ite_of (fun h => ?_) (fun h => ?_)
  · have h := of_decide_eq_true h
    have e : a.fmod b = a % b := Int.fmod_eq_emod_of_nonneg a hb
    have l1 := Int.emod_nonneg a (show b ≠ 0 by omega)
    have l2 := Int.emod_lt_of_pos a h
    refine ⟨by omega, rfl, rfl, _, ?_, b, a.fmod b, hb, by omega, rfl, ?_, rfl⟩
    · omega
    · rw [e, ← hg, gcd_step a b ha hb]
  · have h := of_decide_eq_false h
    obtain rfl : b = 0 := by omega
    refine ⟨fz_ne, ?_⟩
    have := gcd_end a ha
    rw [hg] at this
    rw [this] at q
    exact q
def φ_common_of_three : Spc := fun ds Q => ∃ p q s : Int, ds = [.int p, .int q, .int s] ∧ Q (.int (QD.g3 p q s))
theorem M_common_of_three : MonoS φ_common_of_three := fun _ _ _ h ⟨a, b, c, e, q⟩ => ⟨a, b, c, e, h _ q⟩
theorem c_common_of_three (C : Nat → PyData) : ∀ ds Q, φ_common_of_three ds Q → wDef (FL [φ_common_divisor]) C m_common_of_three 3 ds Q := by
  rintro _ Q ⟨p, q, s, rfl, k⟩
  refine ⟨absI p, absI q, rfl, absI_nn _, absI_nn _, ?_⟩
  refine ⟨_, absI s, rfl, by omega, absI_nn _, fz_ne, ?_⟩
  have e : Int.gcd (Int.gcd (absI p) (absI q) : Nat) (absI s) = Int.gcd (Int.gcd p q : Nat) s := by rw [gcd_abs, Int.gcd, absI_nat]; rfl
  rw [e]
  exact k
/-- below this the gcd may divide -/
def Fit (s : Int) : Prop := s ≠ 0 ∧ s.natAbs < 2 ^ 8990
def φ_length : Spc := fun ds Q => ∃ (d p q s : Int), ds = [.int p, .int q, .int s] ∧ Fit s ∧ Q (QD.mkQ p q s : QD d).L
theorem M_length : MonoS φ_length := fun _ _ _ h ⟨a, b, c, d, e, f, q⟩ => ⟨a, b, c, d, e, f, h _ q⟩
theorem g3_le {p q s : Int} (h : s ≠ 0) : (QD.g3 p q s).natAbs ≤ s.natAbs := Nat.le_of_dvd (by omega) (Int.natAbs_dvd_natAbs.mpr (QD.g3_dvd p q s).2.2)
theorem gs_ok {p q s : Int} (f : Fit s) (a : Int) : fdivOk a (QD.gs p q s) := by
  refine ⟨QD.gs_ne f.1, .inl ?_⟩
  have := g3_le (p := p) (q := q) f.1
  have e : (QD.gs p q s).natAbs = (QD.g3 p q s).natAbs := by unfold QD.gs; split <;> simp
  have : (QD.gs p q s).natAbs < 2 ^ 8990 := by rw [e]; exact Nat.lt_of_le_of_lt this f.2
  have := log_le this
  omega
theorem L_mk {d p q s : Int} (h : s ≠ 0) : (QD.mkQ p q s : QD d).L = .tuple [.int (p.fdiv (QD.gs p q s)), .int (q.fdiv (QD.gs p q s)), .int (s.fdiv (QD.gs p q s))] := by
  obtain ⟨d1, d2, d3⟩ := QD.gs_dvd p q s
  obtain ⟨e1, e2, e3⟩ := QD.enc_mk (d := d) (p := p) (q := q) h
  unfold QD.L
  rw [e1, e2, e3, Int.fdiv_eq_ediv_of_dvd d1, Int.fdiv_eq_ediv_of_dvd d2, Int.fdiv_eq_ediv_of_dvd d3]
  rfl
theorem c_length (C : Nat → PyData) : ∀ ds Q, φ_length ds Q → wDef (FL [φ_common_of_three]) C m_length 4 ds Q := by
  rintro _ Q ⟨d, p, q, s, rfl, f, k⟩
  rw [L_mk f.1] at k
  refine ⟨p, q, s, rfl, fz_ne, ?_⟩
  refine ite_of (fun h => ?_) (fun h => ?_)
  · have h := of_decide_eq_true h
    have e : QD.gs p q s = -QD.g3 p q s := if_pos h
    have g := gs_ok (p := p) (q := q) f
    rw [e] at k g
    exact ⟨fz_ne, g _, g _, g _, rfl, by simp, fz_ne, k⟩
  · have h := of_decide_eq_false h
    have e : QD.gs p q s = QD.g3 p q s := if_neg h
    have g := gs_ok (p := p) (q := q) f
    rw [e] at k g
    exact ⟨g _, g _, g _, rfl, by simp, fz_ne, k⟩

def φ_whole : Spc := fun ds Q => ∃ p : Int, ds = [.int p] ∧ Q (.tuple [.int p, .int 0, .int 1])
theorem M_whole : MonoS φ_whole := fun _ _ _ h ⟨a, e, q⟩ => ⟨a, e, h _ q⟩
theorem c_whole (C : Nat → PyData) : ∀ ds Q, φ_whole ds Q → wDef (FL []) C m_whole 1 ds Q := by
  rintro _ Q ⟨p, rfl, k⟩
  exact ⟨rfl, by simp, fz_ne, k⟩
def φ_plus : Spc := fun ds Q => ∃ (d : Int) (x y : QD d), ds = [x.L, y.L] ∧ x.Bd 4000 ∧ y.Bd 4000 ∧ Q (x + y).L
theorem M_plus : MonoS φ_plus := fun _ _ _ h ⟨a, b, c, e, p1, p2, q⟩ => ⟨a, b, c, e, p1, p2, h _ q⟩
open QD in
theorem fit_mul {d : Int} {x y : QD d} {m n : Nat} (hx : x.Bd m) (hy : y.Bd n) (l : m + n ≤ 8990) : Fit (x.s * y.s) := ⟨ss_ne x y, bit_mono (mul_bit hx.hs hy.hs) l⟩
theorem c_plus (C : Nat → PyData) : ∀ ds Q, φ_plus ds Q → wDef (FL [φ_length]) C m_plus 8 ds Q := by
  rintro _ Q ⟨d, x, y, rfl, hx, hy, k⟩
  rw [QD.add_mk] at k
  exact ⟨rfl, rfl, mul_ok hx.hp hy.hs (by omega), mul_ok hy.hp hx.hs (by omega), mul_ok hx.hq hy.hs (by omega), mul_ok hy.hq hx.hs (by omega), mul_ok hx.hs hy.hs (by omega), d, _, _, _, rfl, fit_mul hx hy (by omega), fz_ne, k⟩
theorem L_neg {d : Int} (x : QD d) : (-x).L = .tuple [.int (-x.p), .int (-x.q), .int x.s] := by
  obtain ⟨e1, e2, e3⟩ := QD.enc_neg x
  unfold QD.L
  rw [e1, e2, e3]
theorem L_tw {d : Int} (x : QD d) : x.tw.L = .tuple [.int x.p, .int (-x.q), .int x.s] := by
  obtain ⟨e1, e2, e3⟩ := QD.enc_tw x
  unfold QD.L
  rw [e1, e2, e3]
def φ_negative : Spc := fun ds Q => ∃ (d : Int) (x : QD d), ds = [x.L] ∧ Q (-x).L
theorem M_negative : MonoS φ_negative := fun _ _ _ h ⟨a, b, e, q⟩ => ⟨a, b, e, h _ q⟩
theorem c_negative (C : Nat → PyData) : ∀ ds Q, φ_negative ds Q → wDef (FL []) C m_negative 4 ds Q := by
  rintro _ Q ⟨d, x, rfl, k⟩
  rw [L_neg] at k
  exact ⟨rfl, rfl, by simp, fz_ne, k⟩
def φ_twin : Spc := fun ds Q => ∃ (d : Int) (x : QD d), ds = [x.L] ∧ Q x.tw.L
theorem M_twin : MonoS φ_twin := fun _ _ _ h ⟨a, b, e, q⟩ => ⟨a, b, e, h _ q⟩
theorem c_twin (C : Nat → PyData) : ∀ ds Q, φ_twin ds Q → wDef (FL []) C m_twin 4 ds Q := by
  rintro _ Q ⟨d, x, rfl, k⟩
  rw [L_tw] at k
  exact ⟨rfl, rfl, by simp, fz_ne, k⟩
def φ_minus : Spc := fun ds Q => ∃ (d : Int) (x y : QD d), ds = [x.L, y.L] ∧ x.Bd 4000 ∧ y.Bd 4000 ∧ Q (x - y).L
theorem M_minus : MonoS φ_minus := fun _ _ _ h ⟨a, b, c, e, p1, p2, q⟩ => ⟨a, b, c, e, p1, p2, h _ q⟩
theorem c_minus (C : Nat → PyData) : ∀ ds Q, φ_minus ds Q → wDef (FL [φ_plus, φ_negative]) C m_minus 2 ds Q := by
  rintro _ Q ⟨d, x, y, rfl, hx, hy, k⟩
  rw [QD.sub_eq] at k
  exact ⟨d, y, rfl, d, x, -y, rfl, hx, hy.neg, fz_ne, k⟩
def φ_times : Spc := fun ds Q => ∃ (d : Int) (_ : Rt d) (x y : QD d), ds = [.int d, x.L, y.L] ∧ x.Bd 4000 ∧ y.Bd 4000 ∧ Q (x * y).L
theorem M_times : MonoS φ_times := fun _ _ _ h ⟨a, r, b, c, e, p1, p2, q⟩ => ⟨a, r, b, c, e, p1, p2, h _ q⟩
theorem c_times (C : Nat → PyData) : ∀ ds Q, φ_times ds Q → wDef (FL [φ_length]) C m_times 9 ds Q := by
  rintro _ Q ⟨d, hr, x, y, rfl, hx, hy, k⟩
  rw [QD.mul_mk] at k
  exact ⟨rfl, rfl, mul_ok hx.hp hy.hp (by omega), mul_ok QD.root_bit hx.hq (by omega), mul_ok (QD.mul_bit QD.root_bit hx.hq) hy.hq (by omega), mul_ok hx.hp hy.hq (by omega), mul_ok hx.hq hy.hp (by omega), mul_ok hx.hs hy.hs (by omega), d, _, _, _, rfl, fit_mul hx hy (by omega), fz_ne, k⟩
def φ_inverse : Spc := fun ds Q => ∃ (d : Int) (_ : Rt d) (x : QD d), ds = [.int d, x.L] ∧ x.Bd 4000 ∧ x ≠ 0 ∧ Q x⁻¹.L
theorem M_inverse : MonoS φ_inverse := fun _ _ _ h ⟨a, r, b, e, p1, p2, q⟩ => ⟨a, r, b, e, p1, p2, h _ q⟩
theorem nn_bit {d : Int} [Rt d] {x : QD d} {m : Nat} (hx : x.Bd m) : x.nn.natAbs < 2 ^ (2 * m + 7) := by
  unfold QD.nn
  rw [Int.sub_eq_add_neg]
  refine QD.bit_mono (QD.add_bit (m := m + m + 6) (QD.bit_mono (QD.mul_bit hx.hp hx.hp) (by omega)) ?_) (by omega)
  rw [Int.natAbs_neg]
  exact QD.bit_mono (QD.mul_bit (QD.mul_bit QD.root_bit hx.hq) hx.hq) (by omega)
theorem c_inverse (C : Nat → PyData) : ∀ ds Q, φ_inverse ds Q → wDef (FL [φ_length]) C m_inverse 5 ds Q := by
  rintro _ Q ⟨d, hr, x, rfl, hx, h0, k⟩
  rw [QD.inv_mk h0] at k
  exact ⟨rfl, mul_ok hx.hs hx.hp (by omega), mul_ok (a := -x.s) (by rw [Int.natAbs_neg]; exact hx.hs) hx.hq (by omega), mul_ok hx.hp hx.hp (by omega), mul_ok QD.root_bit hx.hq (by omega), mul_ok (QD.mul_bit QD.root_bit hx.hq) hx.hq (by omega), d, _, _, _, rfl, ⟨QD.nn_ne h0, QD.bit_mono (nn_bit hx) (by omega)⟩, fz_ne, k⟩
def φ_over : Spc := fun ds Q => ∃ (d : Int) (_ : Rt d) (x y : QD d), ds = [.int d, x.L, y.L] ∧ x.Bd 1800 ∧ y.Bd 1800 ∧ y ≠ 0 ∧ Q (x / y).L
theorem M_over : MonoS φ_over := fun _ _ _ h ⟨a, r, b, c, e, p1, p2, p3, q⟩ => ⟨a, r, b, c, e, p1, p2, p3, h _ q⟩
theorem c_over (C : Nat → PyData) : ∀ ds Q, φ_over ds Q → wDef (FL [φ_times, φ_inverse]) C m_over 3 ds Q := by
  rintro _ Q ⟨d, hr, x, y, rfl, hx, hy, h0, k⟩
  exact ⟨d, hr, y, rfl, hy.mono (by omega), h0, d, hr, x, y⁻¹, rfl, hx.mono (by omega), (hy.inv h0).mono (by omega), fz_ne, k⟩
end Mi

set_option Elab.async false
set_option linter.all false
/-! Signs, crossed products, the fractions of a shape. -/
namespace Mi
open PySem
def sgn (i : Int) : Int := (if decide (0 < i) = true then 1 else 0) - (if decide (i < 0) = true then 1 else 0)
theorem sgn_pos {i : Int} (h : 0 < i) : sgn i = 1 := by unfold sgn; simp [h]; omega
theorem sgn_neg {i : Int} (h : i < 0) : sgn i = -1 := by unfold sgn; simp [h]; omega
theorem sgn_zero : sgn 0 = 0 := rfl
theorem sgn_cases (i : Int) : (0 < i ∧ sgn i = 1) ∨ (i = 0 ∧ sgn i = 0) ∨ (i < 0 ∧ sgn i = -1) := by
  rcases Int.lt_trichotomy i 0 with h | h | h
  · exact .inr (.inr ⟨h, sgn_neg h⟩)
  · subst h; exact .inr (.inl ⟨rfl, rfl⟩)
  · exact .inl ⟨h, sgn_pos h⟩
namespace QD
variable {d : Int}
def sg (x : QD d) : Int := if 0 ≤ x.p * x.q then sgn (x.p + x.q) else if d * x.q * x.q < x.p * x.p then sgn x.p else sgn x.q
theorem sg_cases (x : QD d) : x.sg = 1 ∨ x.sg = 0 ∨ x.sg = -1 := by
  have h : ∀ i, sgn i = 1 ∨ sgn i = 0 ∨ sgn i = -1 := fun i => by rcases sgn_cases i with h | h | h <;> omega
  unfold sg
  split
  · exact h _
  · split <;> exact h _
theorem p_zero : (0 : QD d).p = 0 ∧ (0 : QD d).q = 0 ∧ (0 : QD d).s = 1 := of_is ⟨by decide, by decide, by simp <;> rfl, by simp <;> rfl⟩
theorem p_one : (1 : QD d).p = 1 ∧ (1 : QD d).q = 0 ∧ (1 : QD d).s = 1 := of_is ⟨by decide, by decide, by simp <;> rfl, by simp <;> rfl⟩
theorem L_zero : (0 : QD d).L = .tuple [.int 0, .int 0, .int 1] := by unfold L; rw [p_zero.1, p_zero.2.1, p_zero.2.2]
theorem L_one : (1 : QD d).L = .tuple [.int 1, .int 0, .int 1] := by unfold L; rw [p_one.1, p_one.2.1, p_one.2.2]
theorem z0 (r : Rat) : (0 : Rat) / r = 0 := by rw [Rat.div_def, Rat.zero_mul]
theorem eq_zero_of {x : QD d} (h1 : x.p = 0) (h2 : x.q = 0) : x = 0 := by
  ext
  · rw [x.a_eq, h1]; simp; exact z0 _
  · rw [x.b_eq, h2]; simp; exact z0 _
theorem sg_zero_iff {x : QD d} : x.sg = 0 ↔ x = 0 := by
  refine ⟨fun h => ?_, fun h => ?_⟩
  · unfold sg at h
    have z : ∀ i, sgn i = 0 → i = 0 := fun i h => by rcases sgn_cases i with k | k | k <;> omega
    split at h
    · rename_i hpq
      have e := z _ h
      have e2 : x.q = -x.p := by omega
      rw [e2] at hpq
      have : x.p * -x.p = -(x.p * x.p) := by grind
      have nn : 0 ≤ x.p * x.p := by
        rcases Int.le_total 0 x.p with c | c
        · exact Int.mul_nonneg c c
        · have := Int.mul_nonneg (show 0 ≤ -x.p by omega) (show 0 ≤ -x.p by omega)
          grind
      have e3 : x.p * x.p = 0 := by omega
      have e4 : x.p = 0 := by rcases Int.mul_eq_zero.mp e3 with h | h <;> exact h
      exact eq_zero_of e4 (by omega)
    · rename_i hpq
      split at h
      · have := z _ h
        rw [this] at hpq
        simp at hpq
      · have := z _ h
        rw [this] at hpq
        simp at hpq
  · subst h
    unfold sg
    rw [p_zero.1, p_zero.2.1]
    rfl
theorem sg_frac {x : QD d} (h : x.q = 0) : x.sg = sgn x.p := by
  unfold sg
  rw [h]
  simp
/-- the law's sign -/
theorem sg_law (x : QD d) : x.sg = if 0 ≤ sgn x.p * sgn x.q then sgn (sgn x.p + sgn x.q) else if d * x.q * x.q < x.p * x.p then sgn x.p else sgn x.q := by
  unfold sg
  generalize x.p = p
  generalize x.q = q
  have m : ∀ a b : Int, 0 < a → 0 < b → 0 < a * b := fun a b h1 h2 => Int.mul_pos h1 h2
  rcases sgn_cases p with ⟨h1, e1⟩ | ⟨h1, e1⟩ | ⟨h1, e1⟩ <;> rcases sgn_cases q with ⟨h2, e2⟩ | ⟨h2, e2⟩ | ⟨h2, e2⟩ <;> rw [e1, e2]
  · have := Int.mul_pos h1 h2
    rw [if_pos (by omega), if_pos (by decide), sgn_pos (by omega)]; rfl
  · subst h2; simp [e1]; rfl
  · have := Int.mul_neg_of_pos_of_neg h1 h2
    rw [if_neg (show ¬ 0 ≤ p * q by omega)]
    exact (if_neg (by decide)).symm
  · subst h1; simp [e2]; rfl
  · subst h1 h2; rfl
  · subst h1; simp [e2]; rfl
  · have := Int.mul_neg_of_neg_of_pos h1 h2
    rw [if_neg (show ¬ 0 ≤ p * q by omega)]
    exact (if_neg (by decide)).symm
  · subst h2; simp [e1]; rfl
  · have := Int.mul_pos_of_neg_of_neg h1 h2
    rw [if_pos (by omega), if_pos (by decide), sgn_neg (by omega)]; rfl
theorem q_zero_iff {x : QD d} : x.q = 0 ↔ x.b = 0 := by
  have := x.s_ne
  refine ⟨fun h => by rw [x.b_eq, h]; simp; exact z0 _, fun h => ?_⟩
  have := x.is.hb
  rw [h] at this
  exact Rat.intCast_inj.mp (by rw [this]; simp)
theorem tw_mul (x y : QD d) : (x * y).tw = x.tw * y.tw := by ext <;> simp <;> grind
theorem tw_tw (x : QD d) : x.tw.tw = x := by ext <;> simp
theorem tw_add (x y : QD d) : (x + y).tw = x.tw + y.tw := by ext <;> simp <;> grind
theorem tw_sub (x y : QD d) : (x - y).tw = x.tw - y.tw := by ext <;> simp <;> grind
theorem tw_inj {x y : QD d} (h : x.tw = y.tw) : x = y := by rw [← tw_tw x, h, tw_tw]
theorem tw_zero : (0 : QD d).tw = 0 := by ext <;> simp
theorem tw_one : (1 : QD d).tw = 1 := by ext <;> simp
theorem tw_ne {x : QD d} (h : x ≠ 0) : x.tw ≠ 0 := fun e => h (tw_inj (by rw [e, tw_zero]))
theorem tw_inv [Rt d] (x : QD d) : (x⁻¹).tw = x.tw⁻¹ := by
  have e : x.tw.nm = x.nm := by unfold nm; simp <;> grind
  ext
  · simp [e]
  · simp [e]; grind
theorem tw_div [Rt d] (x y : QD d) : (x / y).tw = x.tw / y.tw := by rw [div_def, div_def, tw_mul, tw_inv]
/-- crossed -/
def cr (x y : QD d) : QD d := x * y.tw - y * x.tw
theorem cr_a (x y : QD d) : (cr x y).a = 0 := by unfold cr; simp <;> grind
theorem cr_b (x y : QD d) : (cr x y).b = 2 * (x.b * y.a - x.a * y.b) := by unfold cr; simp <;> grind
theorem pure_div_b [Rt d] {x y : QD d} (hx : x.a = 0) (hy : y.a = 0) : (x / y).b = 0 := by
  rw [div_def]
  simp [hx, hy, z0, Rat.add_zero]
/-- the numbers by which r and 1 by r are taken -/
def up [Rt d] (x r : QD d) : QD d := cr x (1 / r) / cr r (1 / r)
def un [Rt d] (x r : QD d) : QD d := cr r x / cr r (1 / r)
def OneRay [Rt d] (r : QD d) : Prop := cr r (1 / r) = 0
theorem up_frac [Rt d] (x r : QD d) : (up x r).q = 0 := q_zero_iff.mpr (pure_div_b (cr_a _ _) (cr_a _ _))
theorem un_frac [Rt d] (x r : QD d) : (un x r).q = 0 := q_zero_iff.mpr (pure_div_b (cr_a _ _) (cr_a _ _))
theorem frac_tw {x : QD d} (h : x.q = 0) : x.tw = x := by
  have := q_zero_iff.mp h
  ext <;> simp [this]
theorem sum_eq [Rt d] {x r : QD d} (h : ¬ OneRay r) : up x r * r + un x r / r = x := by
  unfold OneRay at h
  unfold up un
  have e1 : (1 / r).tw = 1 / r.tw := by rw [tw_div, tw_one]
  by_cases hr : r = 0
  · exfalso
    apply h
    subst hr
    unfold cr
    rw [tw_zero]
    grind
  have hr2 := tw_ne hr
  have hc : cr r (1 / r) = r / r.tw - r.tw / r := by unfold cr; rw [e1]; grind
  rw [hc] at h ⊢
  have hx : cr x (1 / r) = x / r.tw - x.tw / r := by unfold cr; rw [e1]; grind
  have hx2 : cr r x = r * x.tw - x * r.tw := rfl
  rw [hx, hx2]
  generalize r.tw = t at *
  generalize x.tw = y at *
  generalize hD : r / t - t / r = D at *
  have : (x / t - y / r) * r + (r * y - x * t) / r = x * D := by rw [← hD]; grind
  grind
/-- unique -/
theorem cr_add (x y z : QD d) : cr (x + y) z = cr x z + cr y z := by unfold cr; rw [tw_add]; grind
theorem cr_self (x : QD d) : cr x x = 0 := by unfold cr; grind
theorem cr_anti (x y : QD d) : cr y x = -cr x y := by unfold cr; grind
theorem cr_smul {f : QD d} (h : f.q = 0) (x y : QD d) : cr (f * x) y = f * cr x y := by unfold cr; rw [tw_mul, frac_tw h]; grind
theorem up_of [Rt d] {f g r : QD d} (hf : f.q = 0) (hg : g.q = 0) (h : ¬ OneRay r) : up (f * r + g / r) r = f ∧ un (f * r + g / r) r = g := by
  unfold OneRay at h
  unfold up un
  have e : f * r + g / r = f * r + g * (1 / r) := by grind
  have k1 : cr (f * r + g / r) (1 / r) = f * cr r (1 / r) := by
    rw [e, cr_add, cr_smul hf, cr_smul hg, cr_self]; grind
  have k2 : cr r (f * r + g / r) = g * cr r (1 / r) := by
    rw [cr_anti, e, cr_add, cr_smul hf, cr_smul hg, cr_self, cr_anti r (1 / r)]; grind
  rw [k1, k2]
  constructor <;> grind
theorem oneRay_sq [Rt d] {r : QD d} (h0 : r ≠ 0) : OneRay r ↔ (r * r).q = 0 := by
  have h1 := tw_ne h0
  have e1 : (1 / r).tw = 1 / r.tw := by rw [tw_div, tw_one]
  have hc : cr r (1 / r) = r / r.tw - r.tw / r := by unfold cr; rw [e1]; grind
  unfold OneRay
  rw [hc, q_zero_iff]
  have k : (r / r.tw - r.tw / r = 0) ↔ r * r = r.tw * r.tw := by
    constructor <;> intro h <;> grind
  rw [k]
  constructor
  · intro h
    have := congrArg QD.b h
    simp at this ⊢
    grind
  · intro h
    simp at h
    ext
    · simp; grind
    · simp; grind
end QD
instance {d : Int} : DecidableEq (QD d) := fun x y => decidable_of_iff (x.p = y.p ∧ x.q = y.q ∧ x.s = y.s) ⟨fun h => QD.inj h.1 h.2.1 h.2.2, fun h => by subst h; exact ⟨rfl, rfl, rfl⟩⟩
/-- the law's answer -/
def LP {d : Int} [Rt d] (x r : QD d) : PyData :=
  if QD.cr r (1 / r) = 0 then
    if (x / r).q ≠ 0 then .none else if (x / r).p < 0 then .none else .tuple [.tuple [.int (x / r).p, .int (x / r).s], .tuple [.int 0, .int 1]]
  else if (QD.up x r).p < 0 ∨ (QD.un x r).p < 0 then .none else .tuple [.tuple [.int (QD.up x r).p, .int (QD.up x r).s], .tuple [.int (QD.un x r).p, .int (QD.un x r).s]]
end Mi

set_option Elab.async false
set_option linter.all false
set_option maxRecDepth 100000
set_option maxHeartbeats 2000000
/-! The package's signs, crossed products, fractions of a shape. -/
namespace Mi
open PySem
/-- sign_of_number(number): number 0 -/
def cs_sign_of_number : Cs := { N := ["number"], fn := [], cn := [], ow := [] }
def m_sign_of_number : Ss := (.cons (.ret (.bin .sub (.blt .int (.cons (.cmp .gt (.var 0) (.con (.int 0))) .nil)) (.blt .int (.cons (.cmp .lt (.var 0) (.con (.int 0))) .nil))))
 .nil)

/-- sign_of(root, number): root 0, number 1, p 2, q 3, s 4 -/
def cs_sign_of : Cs := { N := ["root", "number", "p", "q", "s"], fn := [("sign_of_number", 1)], cn := [], ow := [] }
def m_sign_of : Ss := (.cons (.unp false [2, 3, 4] (.var 1))
 (.cons (.ifs (.cmp .ge (.bin .mul (.var 2) (.var 3)) (.con (.int 0))) (.cons (.ret (.call false 0 (.cons (.bin .add (.var 2) (.var 3)) .nil)))
 .nil) .nil)
 (.cons (.ifs (.cmp .gt (.bin .mul (.var 2) (.var 2)) (.bin .mul (.bin .mul (.var 0) (.var 3)) (.var 3))) (.cons (.ret (.call false 0 (.cons (.var 2) .nil)))
 .nil) .nil)
 (.cons (.ret (.call false 0 (.cons (.var 3) .nil)))
 .nil))))

/-- compare(root, first, second): root 0, first 1, second 2 -/
def cs_compare : Cs := { N := ["root", "first", "second"], fn := [("sign_of", 2), ("minus", 2)], cn := [], ow := [] }
def m_compare : Ss := (.cons (.ret (.call false 0 (.cons (.var 0) (.cons (.call false 1 (.cons (.var 1) (.cons (.var 2) .nil))) .nil))))
 .nil)

/-- is_fraction(number): number 0 -/
def cs_is_fraction : Cs := { N := ["number"], fn := [], cn := [], ow := [] }
def m_is_fraction : Ss := (.cons (.ret (.cmp .eq (.idx (.var 0) (.con (.int 1))) (.con (.int 0))))
 .nil)

/-- crossed(root, first, second): root 0, first 1, second 2 -/
def cs_crossed : Cs := { N := ["root", "first", "second"], fn := [("minus", 2), ("times", 3), ("twin", 1)], cn := [], ow := [] }
def m_crossed : Ss := (.cons (.ret (.call false 0 (.cons (.call false 1 (.cons (.var 0) (.cons (.var 1) (.cons (.call false 2 (.cons (.var 2) .nil)) .nil)))) (.cons (.call false 1 (.cons (.var 0) (.cons (.var 2) (.cons (.call false 2 (.cons (.var 1) .nil)) .nil)))) .nil))))
 .nil)

/-- are_on_one_ray(root, first, second): root 0, first 1, second 2 -/
def cs_are_on_one_ray : Cs := { N := ["root", "first", "second"], fn := [("crossed", 3), ("whole", 1)], cn := [], ow := [] }
def m_are_on_one_ray : Ss := (.cons (.ret (.cmp .eq (.call false 0 (.cons (.var 0) (.cons (.var 1) (.cons (.var 2) .nil)))) (.call false 1 (.cons (.con (.int 0)) .nil))))
 .nil)

/-- fractions_for(root, first, second, shape): root 0, first 1, second 2, shape 3, whole_cross 4 -/
def cs_fractions_for : Cs := { N := ["root", "first", "second", "shape", "whole_cross"], fn := [("crossed", 3), ("over", 3)], cn := [], ow := [] }
def m_fractions_for : Ss := (.cons (.set false false 4 (.call false 0 (.cons (.var 0) (.cons (.var 1) (.cons (.var 2) .nil)))))
 (.cons (.ret (.tup (.cons (.call false 1 (.cons (.var 0) (.cons (.call false 0 (.cons (.var 0) (.cons (.var 3) (.cons (.var 2) .nil)))) (.cons (.var 4) .nil)))) (.cons (.call false 1 (.cons (.var 0) (.cons (.call false 0 (.cons (.var 0) (.cons (.var 1) (.cons (.var 3) .nil)))) (.cons (.var 4) .nil)))) .nil))))
 .nil))

/-- lean_of(root, shape): root 0, shape 1 -/
def cs_lean_of : Cs := { N := ["root", "shape"], fn := [("over", 3), ("twin", 1)], cn := [], ow := [] }
def m_lean_of : Ss := (.cons (.ret (.call false 0 (.cons (.var 0) (.cons (.call false 1 (.cons (.var 1) .nil)) (.cons (.var 1) .nil)))))
 .nil)

/-- outermost(root, shapes): root 0, shapes 1, low 2, high 3, shape 4 -/
def cs_outermost : Cs := { N := ["root", "shapes", "low", "high", "shape"], fn := [("compare", 3), ("lean_of", 2)], cn := [], ow := [] }
def m_outermost : Ss := (.cons (.set false false 2 (.idx (.var 1) (.con (.int 0))))
 (.cons (.set false false 3 (.idx (.var 1) (.con (.int 0))))
 (.cons (.for_ false (.one 4) (.seq (.slc (.var 1) (.con (.int 1)) (.con .none))) (.cons (.ifs (.cmp .eq (.call false 0 (.cons (.var 0) (.cons (.call false 1 (.cons (.var 0) (.cons (.var 4) .nil))) (.cons (.call false 1 (.cons (.var 0) (.cons (.var 2) .nil))) .nil)))) (.neg (.con (.int 1)))) (.cons (.set false false 2 (.var 4))
 .nil) .nil)
 (.cons (.ifs (.cmp .eq (.call false 0 (.cons (.var 0) (.cons (.call false 1 (.cons (.var 0) (.cons (.var 4) .nil))) (.cons (.call false 1 (.cons (.var 0) (.cons (.var 3) .nil))) .nil)))) (.con (.int 1))) (.cons (.set false false 3 (.var 4))
 .nil) .nil)
 .nil)))
 (.cons (.ret (.tup (.cons (.var 2) (.cons (.var 3) .nil))))
 .nil))))

/-- parts_for(root, shapes, shape): root 0, shapes 1, shape 2, low 3, high 4, first 5, second 6 -/
def cs_parts_for : Cs := { N := ["root", "shapes", "shape", "low", "high", "first", "second"], fn := [("outermost", 2), ("are_on_one_ray", 3), ("fractions_for", 4), ("is_fraction", 1), ("over", 3)], cn := [], ow := [] }
def m_parts_for : Ss := (.cons (.unp false [3, 4] (.call false 0 (.cons (.var 0) (.cons (.var 1) .nil))))
 (.cons (.ifs (.call false 1 (.cons (.var 0) (.cons (.var 3) (.cons (.var 4) .nil)))) (.cons (.ifs (.not (.call false 3 (.cons (.call false 4 (.cons (.var 0) (.cons (.var 2) (.cons (.var 3) .nil)))) .nil))) (.cons (.ret (.con .none))
 .nil) .nil)
 (.cons (.ret (.lst (.cons (.tup (.cons (.call false 4 (.cons (.var 0) (.cons (.var 2) (.cons (.var 3) .nil)))) (.cons (.var 3) .nil))) .nil)))
 .nil)) .nil)
 (.cons (.unp false [5, 6] (.call false 2 (.cons (.var 0) (.cons (.var 3) (.cons (.var 4) (.cons (.var 2) .nil))))))
 (.cons (.ret (.lst (.cons (.tup (.cons (.var 5) (.cons (.var 3) .nil))) (.cons (.tup (.cons (.var 6) (.cons (.var 4) .nil))) .nil))))
 .nil))))

/-- are_all_at_least_0(root, parts): root 0, parts 1, fraction 2, shape 3 -/
def cs_are_all_at_least_0 : Cs := { N := ["root", "parts", "fraction", "shape"], fn := [("sign_of", 2)], cn := [], ow := [] }
def m_are_all_at_least_0 : Ss := (.cons (.for_ false (.many [2, 3]) (.seq (.var 1)) (.cons (.ifs (.cmp .eq (.call false 0 (.cons (.var 0) (.cons (.var 2) .nil))) (.neg (.con (.int 1)))) (.cons (.ret (.con (.bool false)))
 .nil) .nil)
 .nil))
 (.cons (.ret (.con (.bool true)))
 .nil))

/-- shapes_alike_to(root, r): root 0, r 1 -/
def cs_shapes_alike_to : Cs := { N := ["root", "r"], fn := [("over", 3), ("whole", 1)], cn := [], ow := [] }
def m_shapes_alike_to : Ss := (.cons (.ret (.lst (.cons (.var 1) (.cons (.call false 0 (.cons (.var 0) (.cons (.call false 1 (.cons (.con (.int 1)) .nil)) (.cons (.var 1) .nil)))) .nil))))
 .nil)

/-- fraction_pair(fraction): fraction 0 -/
def cs_fraction_pair : Cs := { N := ["fraction"], fn := [], cn := [], ow := [] }
def m_fraction_pair : Ss := (.cons (.ret (.tup (.cons (.idx (.var 0) (.con (.int 0))) (.cons (.idx (.var 0) (.con (.int 2))) .nil))))
 .nil)

/-- like_parts(root, sheet, r): root 0, sheet 1, r 2, parts 3 -/
def cs_like_parts : Cs := { N := ["root", "sheet", "r", "parts"], fn := [("parts_for", 3), ("shapes_alike_to", 2), ("over", 3), ("fraction_pair", 1), ("are_all_at_least_0", 2)], cn := [], ow := [] }
def m_like_parts : Ss := (.cons (.set false false 3 (.call false 0 (.cons (.var 0) (.cons (.call false 1 (.cons (.var 0) (.cons (.var 2) .nil))) (.cons (.call false 2 (.cons (.var 0) (.cons (.idx (.var 1) (.con (.int 0))) (.cons (.idx (.var 1) (.con (.int 1))) .nil)))) .nil)))))
 (.cons (.ifs (.or (.cmp .is (.var 3) (.con .none)) (.not (.call false 4 (.cons (.var 0) (.cons (.var 3) .nil))))) (.cons (.ret (.con .none))
 .nil) .nil)
 (.cons (.ifs (.cmp .eq (.blt .len (.cons (.var 3) .nil)) (.con (.int 1))) (.cons (.ret (.tup (.cons (.call false 3 (.cons (.idx (.idx (.var 3) (.con (.int 0))) (.con (.int 0))) .nil)) (.cons (.tup (.cons (.con (.int 0)) (.cons (.con (.int 1)) .nil))) .nil))))
 .nil) .nil)
 (.cons (.ifs (.cmp .ne (.idx (.idx (.var 3) (.con (.int 0))) (.con (.int 1))) (.var 2)) (.cons (.set false false 3 (.rev (.var 3)))
 .nil) .nil)
 (.cons (.ret (.tup (.cons (.call false 3 (.cons (.idx (.idx (.var 3) (.con (.int 0))) (.con (.int 0))) .nil)) (.cons (.call false 3 (.cons (.idx (.idx (.var 3) (.con (.int 1))) (.con (.int 0))) .nil)) .nil))))
 .nil)))))

def φ_sign_of_number : Spc := fun ds Q => ∃ i : Int, ds = [.int i] ∧ Q (.int (sgn i))
theorem M_sign_of_number : MonoS φ_sign_of_number := fun _ _ _ h ⟨a, e, q⟩ => ⟨a, e, h _ q⟩
theorem c_sign_of_number (C : Nat → PyData) : ∀ ds Q, φ_sign_of_number ds Q → wDef (FL []) C m_sign_of_number 1 ds Q := by
  rintro _ Q ⟨p, rfl, k⟩
  exact ⟨fz_ne, k⟩
def φ_sign_of : Spc := fun ds Q => ∃ (d : Int) (_ : Rt d) (x : QD d), ds = [.int d, x.L] ∧ x.Bd 4000 ∧ Q (.int x.sg)
theorem M_sign_of : MonoS φ_sign_of := fun _ _ _ h ⟨a, r, b, e, p1, q⟩ => ⟨a, r, b, e, p1, h _ q⟩
theorem c_sign_of (C : Nat → PyData) : ∀ ds Q, φ_sign_of ds Q → wDef (FL [φ_sign_of_number]) C m_sign_of 5 ds Q := by
  rintro _ Q ⟨d, hr, x, rfl, hx, k⟩
  unfold QD.sg at k
  refine ⟨rfl, mul_ok hx.hp hx.hq (by omega), ite_of (fun h => ?_) (fun h => ?_)⟩
  · rw [if_pos (of_decide_eq_true h)] at k
    exact ⟨_, rfl, fz_ne, k⟩
  · rw [if_neg (of_decide_eq_false h)] at k
    refine ⟨mul_ok hx.hp hx.hp (by omega), mul_ok QD.root_bit hx.hq (by omega), mul_ok (QD.mul_bit QD.root_bit hx.hq) hx.hq (by omega), ite_of (fun h => ?_) (fun h => ?_)⟩
    · rw [if_pos (of_decide_eq_true h)] at k
      exact ⟨_, rfl, fz_ne, k⟩
    · rw [if_neg (of_decide_eq_false h)] at k
      exact ⟨_, rfl, fz_ne, k⟩
def φ_compare : Spc := fun ds Q => ∃ (d : Int) (_ : Rt d) (x y : QD d), ds = [.int d, x.L, y.L] ∧ x.Bd 1990 ∧ y.Bd 1990 ∧ Q (.int (x - y).sg)
theorem M_compare : MonoS φ_compare := fun _ _ _ h ⟨a, r, b, c, e, p1, p2, q⟩ => ⟨a, r, b, c, e, p1, p2, h _ q⟩
theorem c_compare (C : Nat → PyData) : ∀ ds Q, φ_compare ds Q → wDef (FL [φ_sign_of, φ_minus]) C m_compare 3 ds Q := by
  rintro _ Q ⟨d, hr, x, y, rfl, hx, hy, k⟩
  exact ⟨d, x, y, rfl, hx.mono (by omega), hy.mono (by omega), d, hr, _, rfl, (hx.sub hy).mono (by omega), fz_ne, k⟩
def φ_is_fraction : Spc := fun ds Q => ∃ (d : Int) (x : QD d), ds = [x.L] ∧ Q (.bool (x.q == 0))
theorem M_is_fraction : MonoS φ_is_fraction := fun _ _ _ h ⟨a, b, e, q⟩ => ⟨a, b, e, h _ q⟩
theorem c_is_fraction (C : Nat → PyData) : ∀ ds Q, φ_is_fraction ds Q → wDef (FL []) C m_is_fraction 1 ds Q := by
  rintro _ Q ⟨d, x, rfl, k⟩
  exact ⟨_, rfl, rfl, rfl, fz_ne, k⟩
def φ_crossed : Spc := fun ds Q => ∃ (d : Int) (_ : Rt d) (x y : QD d), ds = [.int d, x.L, y.L] ∧ x.Bd 900 ∧ y.Bd 900 ∧ Q (QD.cr x y).L
theorem M_crossed : MonoS φ_crossed := fun _ _ _ h ⟨a, r, b, c, e, p1, p2, q⟩ => ⟨a, r, b, c, e, p1, p2, h _ q⟩
theorem c_crossed (C : Nat → PyData) : ∀ ds Q, φ_crossed ds Q → wDef (FL [φ_minus, φ_times, φ_twin]) C m_crossed 3 ds Q := by
  rintro _ Q ⟨d, hr, x, y, rfl, hx, hy, k⟩
  exact ⟨d, y, rfl, d, hr, x, y.tw, rfl, hx.mono (by omega), hy.tw.mono (by omega), d, x, rfl, d, hr, y, x.tw, rfl, hy.mono (by omega), hx.tw.mono (by omega), d, _, _, rfl, (hx.mul hy.tw).mono (by omega), (hy.mul hx.tw).mono (by omega), fz_ne, k⟩
theorem cr_bd {d : Int} [Rt d] {x y : QD d} {m n : Nat} (hx : x.Bd m) (hy : y.Bd n) : (QD.cr x y).Bd (2 * m + 2 * n + 15) := ((hx.mul hy.tw).sub (hy.mul hx.tw)).mono (by omega)
/-- equality of triples -/
def eqQ {d : Int} (x y : QD d) : Bool := x.p == y.p && (x.q == y.q && (x.s == y.s && true))
theorem eqQ_iff {d : Int} {x y : QD d} : eqQ x y = true ↔ x = y := by
  unfold eqQ
  simp only [Bool.and_eq_true, beq_iff_eq, and_true]
  exact ⟨fun h => QD.inj h.1 h.2.1 h.2.2, fun h => by subst h; exact ⟨rfl, rfl, rfl⟩⟩
theorem eqQ_def {d : Int} (x y : QD d) : eqQ x y = decide (x = y) := by
  cases h : eqQ x y with
  | true => exact (decide_eq_true (eqQ_iff.mp h)).symm
  | false => exact (decide_eq_false (fun e => by rw [eqQ_iff.mpr e] at h; cases h)).symm
theorem cmp_eqL {d : Int} {x y : QD d} {Q : Bool → Prop} (h : Q (decide (x = y))) : cmpW .eq x.L y.L Q := by
  rw [← eqQ_def] at h
  exact ⟨rfl, rfl, h⟩
theorem cmp_neL {d : Int} {x y : QD d} {Q : Bool → Prop} (h : Q (!decide (x = y))) : cmpW .ne x.L y.L Q := by
  rw [← eqQ_def] at h
  exact ⟨rfl, rfl, h⟩
theorem cmp_eqL' {d : Int} {x y : QD d} {a b : PyData} {Q : Bool → Prop} (ha : a = x.L) (hb : b = y.L) (h : Q (decide (x = y))) : cmpW .eq a b Q := by
  subst ha hb
  exact cmp_eqL h
theorem cmp_neL' {d : Int} {x y : QD d} {a b : PyData} {Q : Bool → Prop} (ha : a = x.L) (hb : b = y.L) (h : Q (!decide (x = y))) : cmpW .ne a b Q := by
  subst ha hb
  exact cmp_neL h
theorem callW_fz {ps : List (PyData × Tg)} {d : PyData} {Q : PyData → Tg → Prop} (h : anyBo ps = false) (q : Q d .fz) : callW false ps d Q := by
  unfold callW
  rw [h]
  exact q
def φ_are_on_one_ray : Spc := fun ds Q => ∃ (d : Int) (_ : Rt d) (x y : QD d), ds = [.int d, x.L, y.L] ∧ x.Bd 900 ∧ y.Bd 900 ∧ Q (.bool (decide (QD.cr x y = 0)))
theorem M_are_on_one_ray : MonoS φ_are_on_one_ray := fun _ _ _ h ⟨a, r, b, c, e, p1, p2, q⟩ => ⟨a, r, b, c, e, p1, p2, h _ q⟩
theorem c_are_on_one_ray (C : Nat → PyData) : ∀ ds Q, φ_are_on_one_ray ds Q → wDef (FL [φ_crossed, φ_whole]) C m_are_on_one_ray 3 ds Q := by
  rintro _ Q ⟨d, hr, x, y, rfl, hx, hy, k⟩
  refine ⟨d, hr, x, y, rfl, hx, hy, 0, rfl, callW_fz rfl ?_⟩
  exact cmp_eqL' rfl QD.L_zero.symm ⟨fz_ne, k⟩
def φ_fractions_for : Spc := fun ds Q => ∃ (d : Int) (_ : Rt d) (x y z : QD d), ds = [.int d, x.L, y.L, z.L] ∧ x.Bd 400 ∧ y.Bd 400 ∧ z.Bd 400 ∧ QD.cr x y ≠ 0 ∧ Q (.tuple [(QD.cr z y / QD.cr x y).L, (QD.cr x z / QD.cr x y).L])
theorem M_fractions_for : MonoS φ_fractions_for := fun _ _ _ h ⟨a, r, b, c, f, e, p1, p2, p3, p4, q⟩ => ⟨a, r, b, c, f, e, p1, p2, p3, p4, h _ q⟩
theorem c_fractions_for (C : Nat → PyData) : ∀ ds Q, φ_fractions_for ds Q → wDef (FL [φ_crossed, φ_over]) C m_fractions_for 5 ds Q := by
  rintro _ Q ⟨d, hr, x, y, z, rfl, hx, hy, hz, h0, k⟩
  refine ⟨d, hr, x, y, rfl, hx.mono (by omega), hy.mono (by omega), fz_ne, ?_⟩
  refine ⟨d, hr, z, y, rfl, hz.mono (by omega), hy.mono (by omega), d, hr, _, _, rfl, (cr_bd hz hy).mono (by omega), (cr_bd hx hy).mono (by omega), h0, ?_⟩
  exact ⟨d, hr, x, z, rfl, hx.mono (by omega), hz.mono (by omega), d, hr, _, _, rfl, (cr_bd hx hz).mono (by omega), (cr_bd hx hy).mono (by omega), h0, rfl, by simp, fz_ne, k⟩
def φ_lean_of : Spc := fun ds Q => ∃ (d : Int) (_ : Rt d) (x : QD d), ds = [.int d, x.L] ∧ x.Bd 1800 ∧ x ≠ 0 ∧ Q (x.tw / x).L
theorem M_lean_of : MonoS φ_lean_of := fun _ _ _ h ⟨a, r, b, e, p1, p2, q⟩ => ⟨a, r, b, e, p1, p2, h _ q⟩
theorem c_lean_of (C : Nat → PyData) : ∀ ds Q, φ_lean_of ds Q → wDef (FL [φ_over, φ_twin]) C m_lean_of 2 ds Q := by
  rintro _ Q ⟨d, hr, x, rfl, hx, h0, k⟩
  exact ⟨d, x, rfl, d, hr, _, _, rfl, hx.tw, hx, h0, fz_ne, k⟩
def ln {d : Int} [Rt d] (x : QD d) : QD d := x.tw / x
def loF {d : Int} [Rt d] (lo : QD d) : List (QD d) → QD d
  | [] => lo
  | z :: zs => loF (if (ln z - ln lo).sg = -1 then z else lo) zs
def hiF {d : Int} [Rt d] (hi : QD d) : List (QD d) → QD d
  | [] => hi
  | z :: zs => hiF (if (ln z - ln hi).sg = 1 then z else hi) zs
theorem loF_snoc {d : Int} [Rt d] (z : QD d) : ∀ (l : List (QD d)) (lo : QD d), loF lo (l ++ [z]) = if (ln z - ln (loF lo l)).sg = -1 then z else loF lo l
  | [], _ => rfl
  | y :: l, lo => loF_snoc z l _
theorem hiF_snoc {d : Int} [Rt d] (z : QD d) : ∀ (l : List (QD d)) (lo : QD d), hiF lo (l ++ [z]) = if (ln z - ln (hiF lo l)).sg = 1 then z else hiF lo l
  | [], _ => rfl
  | y :: l, lo => hiF_snoc z l _
theorem loF_mem {d : Int} [Rt d] : ∀ (l : List (QD d)) (lo : QD d), loF lo l ∈ lo :: l
  | [], lo => List.mem_cons_self
  | y :: l, lo => by
    have := loF_mem l (if (ln y - ln lo).sg = -1 then y else lo)
    show loF _ l ∈ _
    rcases List.mem_cons.mp this with h | h
    · rw [h]; split <;> simp
    · exact List.mem_cons_of_mem _ (List.mem_cons_of_mem _ h)
theorem hiF_mem {d : Int} [Rt d] : ∀ (l : List (QD d)) (lo : QD d), hiF lo l ∈ lo :: l
  | [], lo => List.mem_cons_self
  | y :: l, lo => by
    have := hiF_mem l (if (ln y - ln lo).sg = 1 then y else lo)
    show hiF _ l ∈ _
    rcases List.mem_cons.mp this with h | h
    · rw [h]; split <;> simp
    · exact List.mem_cons_of_mem _ (List.mem_cons_of_mem _ h)
def φ_outermost : Spc := fun ds Q => ∃ (d : Int) (_ : Rt d) (x : QD d) (xs : List (QD d)), ds = [.int d, .list (x.L :: xs.map QD.L)] ∧ (∀ z, z ∈ x :: xs → z.Bd 300 ∧ z ≠ 0) ∧ Q (.tuple [(loF x xs).L, (hiF x xs).L])
theorem M_outermost : MonoS φ_outermost := fun _ _ _ h ⟨a, r, b, c, e, p1, q⟩ => ⟨a, r, b, c, e, p1, h _ q⟩
theorem mem_take_cons {α : Type} {x : α} {xs : List α} {i : Nat} {z : α} (h : z ∈ x :: xs.take i) : z ∈ x :: xs := by
  rcases List.mem_cons.mp h with h | h
  · rw [h]; exact List.mem_cons_self
  · exact List.mem_cons_of_mem _ (List.mem_of_mem_take h)
theorem FM2 {a b : Spc} (h1 : MonoS a) (h2 : MonoS b) : ∀ φ, φ ∈ [a, b] → MonoS φ := by
  intro φ h
  simp only [List.mem_cons, List.not_mem_nil, or_false] at h
  rcases h with rfl | rfl
  · exact h1
  · exact h2
theorem FM1 {a : Spc} (h1 : MonoS a) : ∀ φ, φ ∈ [a] → MonoS φ := by
  intro φ h
  simp only [List.mem_cons, List.not_mem_nil, or_false] at h
  rcases h with rfl
  exact h1
theorem FM0 : ∀ φ, φ ∈ ([] : List Spc) → MonoS φ := by simp
theorem atD_nat (ds : List PyData) (i : Nat) (h : i < ds.length) : atD ds (i : Int) = ds[i]? := by
  unfold atD L2.ixN
  rw [if_pos (by omega), if_pos (by omega)]
  rfl
theorem atD_zero (x : PyData) (xs : List PyData) : atD (x :: xs) 0 = some x := atD_nat (x :: xs) 0 (by simp)
theorem cut1D (x : PyData) (xs : List PyData) : cutD (x :: xs) (some 1) none = xs := by
  unfold cutD
  have e1 : HT.sIx (x :: xs).length 0 (some 1) = 1 := by
    rw [show ((1 : Int)) = ((1 : Nat) : Int) from rfl, HT.sIx_nat]
    simp only [List.length_cons]
    omega
  rw [e1, HT.sIx_none]
  simp
theorem seq_slc1 {F : Nat → Spc} {C : Nat → PyData} {i : Nat} {en : En} {Q : List PyData → Tg → Prop} {x : PyData} {xs : List PyData} {o : Bool} (h : en[i]? = some (some ⟨o, .list (x :: xs)⟩)) (q : Q xs .fr) : wIt F C (.seq (.slc (.var i) (.con (.int 1)) (.con .none))) en Q := by
  rw [wIt, wE, wE]
  simp only [h, wE, isNon, optInt, slcW, cut1D]
  exact q
theorem for_step {F : Nat → Spc} {C : Nat → PyData} {fz : Bool} {tg : Tt} {it : It} {b ss : Ss} {en : En} {D : Dn} (h : wIt F C it (frzIf fz en) fun ds t => t ≠ .bo ∧ forW (fun d en' D' => tgW tg d en' fun en'' => wSs F C b en'' D') ds (frzIf fz en) { D with nx := fun en' => wSs F C ss en' D }) : wSs F C (.cons (.for_ fz tg it b) ss) en D := h
theorem c_outermost (C : Nat → PyData) : ∀ ds Q, φ_outermost ds Q → wDef (FL [φ_compare, φ_lean_of]) C m_outermost 5 ds Q := by
  rintro _ Q ⟨d, hr, x, xs, rfl, hx, k⟩
  refine ⟨_, atD_zero _ _, fz_ne, _, atD_zero _ _, fz_ne, for_step (seq_slc1 rfl ⟨fr_ne, ?_⟩)⟩
  refine for_rule (fl_mono (FM2 M_compare M_lean_of)) (fun i en => ∃ v, en = [some ⟨false, .int d⟩, some ⟨false, .list (x.L :: xs.map QD.L)⟩, some ⟨false, (loF x (xs.take i)).L⟩, some ⟨false, (hiF x (xs.take i)).L⟩, v]) ⟨_, rfl⟩ (fun i z en hz hI => ?_) (fun en hI => ?_)
  · obtain ⟨v, rfl⟩ := hI
    rw [List.getElem?_map] at hz
    cases e : xs[i]? with
    | none => rw [e] at hz; cases hz
    | some y =>
      rw [e] at hz
      cases hz
      have et : xs.take (i + 1) = xs.take i ++ [y] := by rw [List.take_add_one, e]; rfl
      have my := hx y (List.mem_cons_of_mem _ (List.mem_of_getElem? e))
      have ml := hx _ (mem_take_cons (loF_mem (xs.take i) x))
      have mh := hx _ (mem_take_cons (hiF_mem (xs.take i) x))
      rw [et, loF_snoc, hiF_snoc]
      generalize loF x (xs.take i) = lo at *
      generalize hiF x (xs.take i) = hi at *
      refine ⟨d, hr, y, rfl, my.1.mono (by omega), my.2, d, hr, lo, rfl, ml.1.mono (by omega), ml.2, d, hr, _, _, rfl, (my.1.tw.div my.1 my.2).mono (by omega), (ml.1.tw.div ml.1 ml.2).mono (by omega), rfl, rfl, ?_⟩
      have second : ∀ lo' : QD d, wSs (FL [φ_compare, φ_lean_of]) C (.cons (.ifs (.cmp .eq (.call false 0 (.cons (.var 0) (.cons (.call false 1 (.cons (.var 0) (.cons (.var 4) .nil))) (.cons (.call false 1 (.cons (.var 0) (.cons (.var 3) .nil))) .nil)))) (.con (.int 1))) (.cons (.set false false 3 (.var 4))
 .nil) .nil)
 .nil) [some ⟨false, .int d⟩, some ⟨false, .list (x.L :: xs.map QD.L)⟩, some ⟨false, lo'.L⟩, some ⟨false, hi.L⟩, some ⟨false, y.L⟩] { nx := fun en => ∃ v, en = [some ⟨false, .int d⟩, some ⟨false, .list (x.L :: xs.map QD.L)⟩, some ⟨false, lo'.L⟩, some ⟨false, (if (ln y - ln hi).sg = 1 then y else hi).L⟩, v], rt := Q, bk := fun en => True, ct := fun en => True } := by
        intro lo'
        refine ⟨d, hr, y, rfl, my.1.mono (by omega), my.2, d, hr, hi, rfl, mh.1.mono (by omega), mh.2, d, hr, _, _, rfl, (my.1.tw.div my.1 my.2).mono (by omega), (mh.1.tw.div mh.1 mh.2).mono (by omega), rfl, rfl, ?_⟩
        refine ite_of (fun h => ?_) (fun h => ?_)
        · have e : (ln y - ln hi).sg = 1 := eq_of_beq h
          rw [if_pos e]
          exact ⟨fz_ne, _, rfl⟩
        · have e : ¬ (ln y - ln hi).sg = 1 := ne_of_beq_false h
          rw [if_neg e]
          exact ⟨_, rfl⟩
      refine ite_of (fun h => ?_) (fun h => ?_)
      · rw [if_pos (show (ln y - ln lo).sg = -1 from eq_of_beq h)]
        exact ⟨fz_ne, second y⟩
      · have e : ¬ (ln y - ln lo).sg = -1 := ne_of_beq_false h
        rw [if_neg e]
        exact second lo
  · obtain ⟨v, rfl⟩ := hI
    rw [List.take_of_length_le (by simp)]
    exact ⟨rfl, by simp, fz_ne, k⟩
end Mi

set_option Elab.async false
set_option linter.all false
set_option maxRecDepth 100000
set_option maxHeartbeats 2000000
/-! The package's like_parts. -/
namespace Mi
open PySem
def pfD {d : Int} [Rt d] (lo hi z : QD d) : PyData :=
  if QD.cr lo hi = 0 then (if (z / lo).q = 0 then .list [.tuple [(z / lo).L, lo.L]] else .none)
  else .list [.tuple [(QD.cr z hi / QD.cr lo hi).L, lo.L], .tuple [(QD.cr lo z / QD.cr lo hi).L, hi.L]]
def φ_parts_for : Spc := fun ds Q => ∃ (d : Int) (_ : Rt d) (x : QD d) (xs : List (QD d)) (z : QD d), ds = [.int d, .list (x.L :: xs.map QD.L), z.L] ∧ (∀ z, z ∈ x :: xs → z.Bd 300 ∧ z ≠ 0) ∧ z.Bd 300 ∧ Q (pfD (loF x xs) (hiF x xs) z)
theorem M_parts_for : MonoS φ_parts_for := fun _ _ _ h ⟨a, r, b, c, f, e, p1, p2, q⟩ => ⟨a, r, b, c, f, e, p1, p2, h _ q⟩
theorem c_parts_for (C : Nat → PyData) : ∀ ds Q, φ_parts_for ds Q → wDef (FL [φ_outermost, φ_are_on_one_ray, φ_fractions_for, φ_is_fraction, φ_over]) C m_parts_for 7 ds Q := by
  rintro _ Q ⟨d, hr, x, xs, z, rfl, hx, hz, k⟩
  have ml := hx _ (loF_mem xs x)
  have mh := hx _ (hiF_mem xs x)
  refine ⟨d, hr, x, xs, rfl, hx, rfl, ?_⟩
  generalize loF x xs = lo at *
  generalize hiF x xs = hi at *
  unfold pfD at k
  refine ⟨d, hr, lo, hi, rfl, ml.1.mono (by omega), mh.1.mono (by omega), callW_fz rfl (ite_of (fun h => ?_) (fun h => ?_))⟩
  · rw [if_pos (of_decide_eq_true h)] at k
    refine ⟨d, hr, z, lo, rfl, hz.mono (by omega), ml.1.mono (by omega), ml.2, d, _, rfl, callW_fz rfl (ite_of (fun h => ?_) (fun h => ?_))⟩
    · have e : ¬ (z / lo).q = 0 := fun e => by rw [e] at h; cases h
      rw [if_neg e] at k
      exact ⟨fz_ne, k⟩
    · have e : (z / lo).q = 0 := by
        cases c : (z / lo).q == 0 with
        | true => exact eq_of_beq c
        | false => rw [c] at h; cases h
      rw [if_pos e] at k
      exact ⟨d, hr, z, lo, rfl, hz.mono (by omega), ml.1.mono (by omega), ml.2, rfl, by simp, rfl, by simp, fr_ne, k⟩
  · have hc := of_decide_eq_false h
    rw [if_neg hc] at k
    exact ⟨d, hr, lo, hi, z, rfl, ml.1.mono (by omega), mh.1.mono (by omega), hz.mono (by omega), hc, rfl, rfl, by simp, rfl, by simp, rfl, by simp, fr_ne, k⟩
def φ_are_all_at_least_0 : Spc := fun ds Q => ∃ (d : Int) (_ : Rt d) (ps : List (QD d × PyData)), ds = [.int d, .list (ps.map fun p => .tuple [p.1.L, p.2])] ∧ (∀ p, p ∈ ps → p.1.Bd 4000) ∧ Q (.bool (ps.all fun p => p.1.sg != -1))
theorem M_are_all_at_least_0 : MonoS φ_are_all_at_least_0 := fun _ _ _ h ⟨a, r, b, e, p1, q⟩ => ⟨a, r, b, e, p1, h _ q⟩
theorem c_are_all_at_least_0 (C : Nat → PyData) : ∀ ds Q, φ_are_all_at_least_0 ds Q → wDef (FL [φ_sign_of]) C m_are_all_at_least_0 4 ds Q := by
  rintro _ Q ⟨d, hr, ps, rfl, hp, k⟩
  refine for_step ⟨fz_ne, ?_⟩
  refine for_rule (fl_mono (FM1 M_sign_of)) (fun i en => (∀ p, p ∈ ps.take i → p.1.sg ≠ -1) ∧ ∃ v w, en = [some ⟨false, .int d⟩, some ⟨false, .list (ps.map fun p => .tuple [p.1.L, p.2])⟩, v, w]) ⟨by simp, _, _, rfl⟩ (fun i z en hz hI => ?_) (fun en hI => ?_)
  · obtain ⟨hI, v, w, rfl⟩ := hI
    rw [List.getElem?_map] at hz
    cases e : ps[i]? with
    | none => rw [e] at hz; cases hz
    | some y =>
      rw [e] at hz
      cases hz
      have my := List.mem_of_getElem? e
      refine ⟨rfl, d, hr, y.1, rfl, hp _ my, rfl, rfl, ite_of (fun h => ?_) (fun h => ?_)⟩
      · have e1 : y.1.sg = -1 := eq_of_beq h
        have : (ps.all fun p => p.1.sg != -1) = false := by
          rw [List.all_eq_false]
          exact ⟨y, my, by simp [e1]⟩
        rw [this] at k
        exact ⟨fz_ne, k⟩
      · have e1 : ¬ y.1.sg = -1 := ne_of_beq_false h
        refine ⟨fun p hp => ?_, _, _, rfl⟩
        rw [List.take_add_one, e] at hp
        rcases List.mem_append.mp hp with h | h
        · exact hI p h
        · simp at h; subst h; exact e1
  · obtain ⟨hI, v, w, rfl⟩ := hI
    rw [List.take_of_length_le (by simp)] at hI
    have : (ps.all fun p => p.1.sg != -1) = true := by
      rw [List.all_eq_true]
      exact fun p hp => by simpa using hI p hp
    rw [this] at k
    exact ⟨fz_ne, k⟩
def φ_shapes_alike_to : Spc := fun ds Q => ∃ (d : Int) (_ : Rt d) (r : QD d), ds = [.int d, r.L] ∧ r.Bd 1800 ∧ r ≠ 0 ∧ Q (.list [r.L, (1 / r).L])
theorem M_shapes_alike_to : MonoS φ_shapes_alike_to := fun _ _ _ h ⟨a, r, b, e, p1, p2, q⟩ => ⟨a, r, b, e, p1, p2, h _ q⟩
theorem one_bd {d : Int} : (1 : QD d).Bd 1 := ⟨by rw [QD.p_one.1]; decide, by rw [QD.p_one.2.1]; decide, by rw [QD.p_one.2.2]; decide⟩
theorem zero_bd {d : Int} : (0 : QD d).Bd 1 := ⟨by rw [QD.p_zero.1]; decide, by rw [QD.p_zero.2.1]; decide, by rw [QD.p_zero.2.2]; decide⟩
theorem L_one' {d : Int} : PyData.tuple [.int 1, .int 0, .int 1] = (1 : QD d).L := QD.L_one.symm
theorem c_shapes_alike_to (C : Nat → PyData) : ∀ ds Q, φ_shapes_alike_to ds Q → wDef (FL [φ_over, φ_whole]) C m_shapes_alike_to 2 ds Q := by
  rintro _ Q ⟨d, hr, r, rfl, h1, h0, k⟩
  exact ⟨1, rfl, d, hr, 1, r, congrArg (fun z => [PyData.int d, z, r.L]) L_one', one_bd.mono (by omega), h1, h0, rfl, by simp, fr_ne, k⟩
def φ_fraction_pair : Spc := fun ds Q => ∃ (d : Int) (x : QD d), ds = [x.L] ∧ Q (.tuple [.int x.p, .int x.s])
theorem M_fraction_pair : MonoS φ_fraction_pair := fun _ _ _ h ⟨a, b, e, q⟩ => ⟨a, b, e, h _ q⟩
theorem c_fraction_pair (C : Nat → PyData) : ∀ ds Q, φ_fraction_pair ds Q → wDef (FL []) C m_fraction_pair 1 ds Q := by
  rintro _ Q ⟨d, x, rfl, k⟩
  exact ⟨_, rfl, _, rfl, rfl, by simp, fz_ne, k⟩
theorem sg_not_neg {d : Int} {f : QD d} (h : f.q = 0) : (f.sg != -1) = decide (0 ≤ f.p) := by
  rw [QD.sg_frac h]
  rcases sgn_cases f.p with ⟨a, e⟩ | ⟨a, e⟩ | ⟨a, e⟩ <;> rw [e]
  · rw [decide_eq_true (by omega)]; rfl
  · rw [decide_eq_true (by omega)]; rfl
  · rw [decide_eq_false (by omega)]; rfl
def φ_like_parts : Spc := fun ds Q => ∃ (d : Int) (_ : Rt d) (w h r : QD d), ds = [.int d, .tuple [w.L, h.L], r.L] ∧ r.Bd 140 ∧ r ≠ 0 ∧ w.Bd 90 ∧ h.Bd 90 ∧ h ≠ 0 ∧ Q (LP (w / h) r)
theorem M_like_parts : MonoS φ_like_parts := fun _ _ _ h ⟨a, r, b, c, f, e, p1, p2, p3, p4, p5, q⟩ => ⟨a, r, b, c, f, e, p1, p2, p3, p4, p5, h _ q⟩
theorem inv_ne {d : Int} [Rt d] {r : QD d} (h : r ≠ 0) : (1 / r) ≠ 0 := by
  intro e
  have : r * (1 / r) = 1 := by grind
  rw [e] at this
  have h2 : (1 : QD d) = 0 := by grind
  have := congrArg QD.a h2
  simp at this
/-- the two leans -/
theorem lean_eq {d : Int} [Rt d] {r : QD d} (h0 : r ≠ 0) : ln (1 / r) - ln r = QD.cr r (1 / r) := by
  have h1 := QD.tw_ne h0
  have e1 : (1 / r).tw = 1 / r.tw := by rw [QD.tw_div, QD.tw_one]
  unfold ln QD.cr
  rw [e1]
  grind
theorem c_like_parts (C : Nat → PyData) : ∀ ds Q, φ_like_parts ds Q → wDef (FL [φ_parts_for, φ_shapes_alike_to, φ_over, φ_fraction_pair, φ_are_all_at_least_0]) C m_like_parts 4 ds Q := by
  rintro _ Q ⟨d, hr, w, h, r, rfl, hrb, hr0, hw, hh, hh0, k⟩
  have hx : (w / h).Bd 300 := (hw.div hh hh0).mono (by omega)
  have hi : (1 / r).Bd 300 := (one_bd.div hrb hr0).mono (by omega)
  have hi0 := inv_ne hr0
  refine ⟨d, hr, r, rfl, hrb.mono (by omega), hr0, _, rfl, _, rfl, d, hr, w, h, rfl, hw.mono (by omega), hh.mono (by omega), hh0, d, hr, r, [1 / r], w / h, rfl, ?_, hx, ?_⟩
  · intro z hz
    simp only [List.mem_cons, List.not_mem_nil, or_false] at hz
    rcases hz with rfl | rfl
    · exact ⟨hrb.mono (by omega), hr0⟩
    · exact ⟨hi, hi0⟩
  generalize w / h = x at *
  have hl : loF r [1 / r] = if (QD.cr r (1 / r)).sg = -1 then 1 / r else r := by show (if (ln (1 / r) - ln r).sg = -1 then 1 / r else r) = _; rw [lean_eq hr0]
  have hh : hiF r [1 / r] = if (QD.cr r (1 / r)).sg = 1 then 1 / r else r := by show (if (ln (1 / r) - ln r).sg = 1 then 1 / r else r) = _; rw [lean_eq hr0]
  rw [hl, hh]
  refine ⟨fz_ne, ?_⟩
  unfold LP at k
  rcases QD.sg_cases (QD.cr r (1 / r)) with hs | hs | hs
  · -- r is the lower one
    have hc : QD.cr r (1 / r) ≠ 0 := fun e => by rw [QD.sg_zero_iff.mpr e] at hs; cases hs
    rw [if_neg hc] at k
    have hub : (QD.up x r).Bd 4000 := ((cr_bd hx hi).div (cr_bd (hrb.mono (by omega) : r.Bd 300) hi) hc).mono (by omega)
    have hnb : (QD.un x r).Bd 4000 := ((cr_bd (hrb.mono (by omega) : r.Bd 300) hx).div (cr_bd (hrb.mono (by omega) : r.Bd 300) hi) hc).mono (by omega)
    rw [hs, if_neg (by decide), if_pos rfl]
    have e : pfD r (1 / r) x = .list [.tuple [(QD.up x r).L, r.L], .tuple [(QD.un x r).L, (1 / r).L]] := by unfold pfD; rw [if_neg hc]; rfl
    rw [e]
    refine ⟨d, hr, [(QD.up x r, r.L), (QD.un x r, (1 / r).L)], rfl, ?_, callW_fz rfl (ite_of (fun h => ?_) (fun h => ?_))⟩
    · intro p hp
      simp only [List.mem_cons, List.not_mem_nil, or_false] at hp
      rcases hp with rfl | rfl
      · exact hub
      · exact hnb
    · have h' : (QD.up x r).p < 0 ∨ (QD.un x r).p < 0 := by
        simpa [sg_not_neg (QD.up_frac x r), sg_not_neg (QD.un_frac x r)] using h
      rw [if_pos h'] at k
      exact ⟨fz_ne, k⟩
    · have h' : (0 ≤ (QD.up x r).p ∧ 0 ≤ (QD.un x r).p) := by
        simpa [sg_not_neg (QD.up_frac x r), sg_not_neg (QD.un_frac x r)] using h
      rw [if_neg (by omega)] at k
      refine ⟨rfl, rfl, _, rfl, _, rfl, rfl, rfl, ite_of (fun h => ?_) (fun h => ?_)⟩
      · have h : (!eqQ r r) = true := h
        rw [eqQ_def] at h
        simp at h
      · exact ⟨_, rfl, _, rfl, d, _, rfl, _, rfl, _, rfl, d, _, rfl, rfl, by simp, fz_ne, k⟩
  · have hc : QD.cr r (1 / r) = 0 := QD.sg_zero_iff.mp hs
    rw [if_pos hc] at k
    rw [hs, if_neg (by decide), if_neg (by decide)]
    by_cases hq : (x / r).q = 0
    · have e : pfD r r x = .list [.tuple [(x / r).L, r.L]] := by unfold pfD; rw [if_pos (QD.cr_self r), if_pos hq]
      rw [if_neg (by simpa using hq)] at k
      rw [e]
      refine ⟨d, hr, [(x / r, r.L)], rfl, ?_, callW_fz rfl (ite_of (fun h => ?_) (fun h => ?_))⟩
      · intro p hp
        simp only [List.mem_cons, List.not_mem_nil, or_false] at hp
        subst hp
        exact (hx.div hrb hr0).mono (by omega)
      · have h' : ¬ (0 ≤ (x / r).p) := by simpa [sg_not_neg hq] using h
        rw [if_pos (by omega)] at k
        exact ⟨fz_ne, k⟩
      · have h' : (0 ≤ (x / r).p) := by simpa [sg_not_neg hq] using h
        rw [if_neg (by omega)] at k
        exact ⟨rfl, rfl, _, rfl, _, rfl, d, _, rfl, rfl, by simp, rfl, by simp, fz_ne, k⟩
    · have e : pfD r r x = .none := by unfold pfD; rw [if_pos (QD.cr_self r), if_neg hq]
      rw [if_pos hq] at k
      rw [e]
      exact ⟨fz_ne, k⟩
  · have hc : QD.cr r (1 / r) ≠ 0 := fun e => by rw [QD.sg_zero_iff.mpr e] at hs; cases hs
    rw [if_neg hc] at k
    have hub : (QD.up x r).Bd 4000 := ((cr_bd hx hi).div (cr_bd (hrb.mono (by omega) : r.Bd 300) hi) hc).mono (by omega)
    have hnb : (QD.un x r).Bd 4000 := ((cr_bd (hrb.mono (by omega) : r.Bd 300) hx).div (cr_bd (hrb.mono (by omega) : r.Bd 300) hi) hc).mono (by omega)
    rw [hs, if_pos rfl, if_neg (by decide)]
    have hc' : QD.cr (1 / r) r ≠ 0 := fun e => hc (by rw [QD.cr_anti, e]; grind)
    have e : pfD (1 / r) r x = .list [.tuple [(QD.un x r).L, (1 / r).L], .tuple [(QD.up x r).L, r.L]] := by
      have e1 : QD.cr x r / QD.cr (1 / r) r = QD.un x r := by
        unfold QD.un
        rw [QD.cr_anti r x, QD.cr_anti r (1 / r)]
        grind
      have e2 : QD.cr (1 / r) x / QD.cr (1 / r) r = QD.up x r := by
        unfold QD.up
        rw [QD.cr_anti x (1 / r), QD.cr_anti r (1 / r)]
        grind
      unfold pfD
      rw [if_neg hc', e1, e2]
    rw [e]
    have hne : (1 / r) ≠ r := fun e => hc (by rw [e]; exact QD.cr_self r)
    refine ⟨d, hr, [(QD.un x r, (1 / r).L), (QD.up x r, r.L)], rfl, ?_, callW_fz rfl (ite_of (fun h => ?_) (fun h => ?_))⟩
    · intro p hp
      simp only [List.mem_cons, List.not_mem_nil, or_false] at hp
      rcases hp with rfl | rfl
      · exact hnb
      · exact hub
    · have h' : (QD.un x r).p < 0 ∨ (QD.up x r).p < 0 := by
        simpa [sg_not_neg (QD.up_frac x r), sg_not_neg (QD.un_frac x r)] using h
      rw [if_pos h'.symm] at k
      exact ⟨fz_ne, k⟩
    · have h' : (0 ≤ (QD.un x r).p ∧ 0 ≤ (QD.up x r).p) := by
        simpa [sg_not_neg (QD.up_frac x r), sg_not_neg (QD.un_frac x r)] using h
      rw [if_neg (by omega)] at k
      refine ⟨rfl, rfl, _, rfl, _, rfl, rfl, rfl, ite_of (fun h => ?_) (fun h => ?_)⟩
      · exact ⟨fr_ne, _, rfl, _, rfl, d, _, rfl, _, rfl, _, rfl, d, _, rfl, rfl, by simp, fz_ne, k⟩
      · have h : (!eqQ (1 / r) r) = false := h
        rw [eqQ_def] at h
        simp [hne] at h
end Mi

set_option Elab.async false
set_option linter.all false
set_option maxRecDepth 100000
set_option maxHeartbeats 2000000
/-! The law's draws. -/
namespace Mi
open PySem
/-- _law_draws(script, many): script 0, many 1, found 2, cell 3, number 4, k 5, mixed 6, base 7 -/
def cs_law_draws : Cs := { N := ["script", "many", "found", "cell", "number", "k", "mixed", "base"], fn := [], cn := [], ow := [2] }
def m_law_draws : Ss := (.cons (.set false true 2 (.lst .nil))
 (.cons (.for_ false (.one 3) (.seq (.slc (.var 0) (.con .none) (.con (.int 63)))) (.cons (.set false false 4 (.blt .abs (.cons (.blt .int (.cons (.var 3) .nil)) .nil)))
 (.cons (.ifs (.cmp .ge (.var 4) (.bin .pow (.con (.int 10)) (.con (.int 18)))) (.cons (.for_ false (.one 5) (.rng (.con (.int 0)) (.con (.int 60))) (.cons (.ifs (.cmp .gt (.var 4) (.con (.int 0))) (.cons (.app 2 (.bin .mod (.var 4) (.con (.int 1000003))))
 (.cons (.set false false 4 (.bin .fdiv (.var 4) (.con (.int 1000003))))
 .nil)) .nil)
 .nil))
 .nil) (.cons (.set false false 6 (.bin .mod (.bin .add (.bin .add (.bin .mul (.var 4) (.con (.int 48271))) (.bin .mul (.con (.int 7)) (.blt .len (.cons (.var 2) .nil)))) (.con (.int 11))) (.con (.int 2147483647))))
 (.cons (.for_ false (.one 5) (.rng (.con (.int 0)) (.con (.int 4))) (.cons (.set false false 6 (.bin .mod (.bin .add (.bin .add (.bin .add (.bin .mul (.var 6) (.con (.int 69621))) (.bin .fdiv (.var 6) (.con (.int 65536)))) (.bin .mul (.con (.int 13)) (.var 5))) (.con (.int 5))) (.con (.int 2147483629))))
 (.cons (.app 2 (.bin .mod (.bin .fdiv (.var 6) (.con (.int 8))) (.con (.int 1000003))))
 .nil)))
 .nil)))
 .nil)))
 (.cons (.for_ false (.one 5) (.rng (.con (.int 0)) (.var 1)) (.cons (.ifs (.cmp .lt (.blt .len (.cons (.var 2) .nil)) (.var 1)) (.cons (.set false false 7 (.con (.int 0)))
 (.cons (.ifs (.cmp .gt (.blt .len (.cons (.var 2) .nil)) (.con (.int 0))) (.cons (.set false false 7 (.idx (.var 2) (.bin .mod (.var 5) (.blt .len (.cons (.var 2) .nil)))))
 .nil) .nil)
 (.cons (.app 2 (.bin .mod (.bin .add (.bin .add (.bin .mul (.var 7) (.con (.int 16807))) (.bin .mul (.con (.int 31)) (.blt .len (.cons (.var 2) .nil)))) (.con (.int 17))) (.con (.int 1000003))))
 .nil))) .nil)
 .nil))
 (.cons (.ret (.slc (.var 2) (.con .none) (.var 1)))
 .nil))))

abbrev intL (ns : List Int) : PyData := .list (ns.map PyData.int)
def Dr (ns : List Int) : Prop := ∀ x, x ∈ ns → 0 ≤ x ∧ x < 1000003
def φ_law_draws : Spc := fun ds Q => ∃ (ns : List Int) (m : Nat), ds = [scrD ns, .int m] ∧ ns.length ≤ 63 ∧ m ≤ 1000 ∧ ∀ D : List Int, D.length = m → Dr D → Q (intL D)
theorem M_law_draws : MonoS φ_law_draws := fun _ _ _ h ⟨a, b, e, p1, p2, q⟩ => ⟨a, b, e, p1, p2, fun D h1 h2 => h _ (q D h1 h2)⟩
theorem Dr.snoc {fs : List Int} (h : Dr fs) {y : Int} : Dr (fs ++ [y % 1000003]) := fun x hx => by
  rcases List.mem_append.mp hx with k | k
  · exact h x k
  · simp at k
    have := Int.emod_nonneg y (show (1000003 : Int) ≠ 0 by decide)
    have := Int.emod_lt_of_pos y (show (0 : Int) < 1000003 by decide)
    omega
theorem fmod_pos (a : Int) {b : Int} (h : 0 < b) : a.fmod b = a % b := Int.fmod_eq_emod_of_nonneg a (by omega)
theorem fdiv_pos (a : Int) {b : Int} (h : 0 < b) : a.fdiv b = a / b := Int.fdiv_eq_ediv_of_nonneg a (by omega)
theorem mul_small {a b : Int} (ha : a.natAbs < 2 ^ 200) (hb : b.natAbs < 2 ^ 200) : mulOk a b := mul_ok ha hb (by omega)
theorem fdiv_small {a b : Int} (h : b ≠ 0) (hb : b.natAbs < 2 ^ 200) : fdivOk a b := ⟨h, .inl (by have := log_le hb; omega)⟩
theorem lim_lt {gs : List Int} (h : gs.length < 1000000) : (gs.map PyData.int).length < LIM := by rw [List.length_map]; exact h
theorem app_map {fs : List Int} {y : Int} : PyData.list (fs.map PyData.int ++ [PyData.int y]) = intL (fs ++ [y]) := by simp [intL]
theorem c_law_draws (C : Nat → PyData) : ∀ ds Q, φ_law_draws ds Q → wDef (FL []) C m_law_draws 8 ds Q := by
  rintro _ Q ⟨ns, m, rfl, hn, hm, k⟩
  refine ⟨rfl, by simp, fr_ne, for_step ⟨fr_ne, ?_⟩⟩
  have hlen : (cutD (ns.map PyData.int) none (some 63)).length ≤ 63 := by
    unfold cutD
    simp only [List.length_take, List.length_drop, List.length_map]
    omega
  refine for_rule (fl_mono FM0) (fun i en => ∃ fs v3 v4 v5 v6, fs.length ≤ 60 * i ∧ Dr fs ∧ en = [some ⟨false, scrD ns⟩, some ⟨false, .int m⟩, some ⟨true, intL fs⟩, v3, v4, v5, v6, none]) ⟨[], none, none, none, none, by simp, (fun x h => by cases h), rfl⟩ (fun i d en hd hI => ?_) (fun en hI => ?_)
  · obtain ⟨fs, v3, v4, v5, v6, hl, hr, rfl⟩ := hI
    have hi : i < 63 := by
      have := (List.getElem?_eq_some_iff.mp hd).1
      omega
    have hd' : ∃ n : Int, d = .int n := by
      have := List.mem_of_getElem? hd
      unfold cutD at this
      have := List.mem_of_mem_drop (List.mem_of_mem_take this)
      obtain ⟨n, _, e⟩ := List.mem_map.mp this
      exact ⟨n, e.symm⟩
    obtain ⟨n, rfl⟩ := hd'
    refine ⟨fz_ne, ?_⟩
    refine ⟨?_, ite_of (fun h => ?_) (fun h => ?_)⟩
    · show L2.CPow 10 18
      unfold L2.CPow
      decide
    · -- a great number
      refine for_step ⟨⟨by decide, by decide, by decide, by decide⟩, fz_ne, ?_⟩
      refine for_rule (fl_mono FM0) (fun j en => ∃ (gs : List Int) (z : Int) (v5 : Option Slot), gs.length ≤ 60 * i + j ∧ Dr gs ∧ en = [some ⟨false, scrD ns⟩, some ⟨false, .int m⟩, some ⟨true, intL gs⟩, some ⟨false, .int n⟩, some ⟨false, .int z⟩, v5, v6, none]) ⟨fs, _, v5, by omega, hr, rfl⟩ (fun j d en hd hI => ?_) (fun en hI => ?_)
      · obtain ⟨gs, z, v5, hl, hr, rfl⟩ := hI
        have hj : j < 60 := by
          have := (List.getElem?_eq_some_iff.mp hd).1
          simpa [rangeD] using this
        refine ite_of (fun h => ?_) (fun h => ?_)
        · refine ⟨by decide, fz_ne, lim_lt (by omega), fdiv_small (by decide) (by decide), fz_ne, gs ++ [z % 1000003], z.fdiv 1000003, some ⟨false, d⟩, by simp; omega, hr.snoc, ?_⟩
          rw [← app_map, ← fmod_pos z (by decide)]
          rfl
        · exact ⟨gs, z, some ⟨false, d⟩, by omega, hr, rfl⟩
      · obtain ⟨gs, z, v5, hl, hr, rfl⟩ := hI
        refine ⟨gs, _, _, _, _, ?_, hr, rfl⟩
        simp [rangeD] at hl
        omega
    · have h10 : ((10 : Int) ^ ((18 : Int)).toNat) = 1000000000000000000 := by decide
      have h : ¬ (1000000000000000000 ≤ absI n) := by
        have h := of_decide_eq_false h
        rw [h10] at h
        exact h
      have hnn := absI_nn n
      refine ⟨mul_small (show (absI n).natAbs < _ by omega) (by decide), mul_small (by decide) (show ((fs.map PyData.int).length : Int).natAbs < _ by simp; omega), by decide, fz_ne, ?_⟩
      refine for_step ⟨⟨by decide, by decide, by decide, by decide⟩, fz_ne, ?_⟩
      refine for_rule (fl_mono FM0) (fun j en => ∃ (gs : List Int) (z : Int) (v5 : Option Slot), 0 ≤ z ∧ z < 2147483647 ∧ gs.length ≤ 60 * i + j ∧ Dr gs ∧ en = [some ⟨false, scrD ns⟩, some ⟨false, .int m⟩, some ⟨true, intL gs⟩, some ⟨false, .int n⟩, some ⟨false, .int (absI n)⟩, v5, some ⟨false, .int z⟩, none]) ⟨fs, _, v5, ?_, ?_, by omega, hr, rfl⟩ (fun j d en hd hI => ?_) (fun en hI => ?_)
      · rw [fmod_pos _ (by decide)]
        exact Int.emod_nonneg _ (by decide)
      · rw [fmod_pos _ (by decide)]
        exact Int.emod_lt_of_pos _ (by decide)
      · obtain ⟨gs, z, v5, h1, h2, hl, hr, rfl⟩ := hI
        have hj : j < 4 := by
          have := (List.getElem?_eq_some_iff.mp hd).1
          simpa [rangeD] using this
        have hd' : d = .int j := by
          unfold rangeD at hd
          rw [List.getElem?_map, List.getElem?_range (by simpa using hj)] at hd
          cases hd
          simp
        subst hd'
        refine ⟨mul_small (by omega) (by decide), fdiv_small (by decide) (by decide), mul_small (by decide) (by omega), by decide, fz_ne, fdiv_small (by decide) (by decide), by decide, fz_ne, lim_lt (by omega), gs ++ [((z * 69621 + z.fdiv 65536 + 13 * (j : Int) + 5).fmod 2147483629).fdiv 8 % 1000003], (z * 69621 + z.fdiv 65536 + 13 * (j : Int) + 5).fmod 2147483629, some ⟨false, .int j⟩, ?_, ?_, by simp; omega, hr.snoc, ?_⟩
        · rw [fmod_pos _ (by decide)]
          exact Int.emod_nonneg _ (by decide)
        · rw [fmod_pos _ (by decide)]
          have := Int.emod_lt_of_pos (z * 69621 + z.fdiv 65536 + 13 * (j : Int) + 5) (show (0 : Int) < 2147483629 by decide)
          omega
        · rw [← app_map, ← fmod_pos _ (by decide)]
          rfl
      · obtain ⟨gs, z, v5, h1, h2, hl, hr, rfl⟩ := hI
        refine ⟨gs, _, _, _, _, ?_, hr, rfl⟩
        simp [rangeD] at hl
        omega
  · obtain ⟨fs, v3, v4, v5, v6, hl, hr, rfl⟩ := hI
    refine for_step ⟨⟨by decide, by decide, by omega, by omega⟩, fz_ne, ?_⟩
    refine for_rule (fl_mono FM0) (fun j en => ∃ (gs : List Int) (v5 v7 : Option Slot), j ≤ gs.length ∧ gs.length ≤ 5000 ∧ Dr gs ∧ en = [some ⟨false, scrD ns⟩, some ⟨false, .int m⟩, some ⟨true, intL gs⟩, v3, v4, v5, v6, v7]) ⟨fs, v5, none, by omega, by omega, hr, rfl⟩ (fun j d en hd hI => ?_) (fun en hI => ?_)
    · obtain ⟨gs, v5, v7, h1, h2, hr, rfl⟩ := hI
      have hj : j < m := by
        have := (List.getElem?_eq_some_iff.mp hd).1
        simpa [rangeD] using this
      have hd' : d = .int j := by
        unfold rangeD at hd
        rw [List.getElem?_map, List.getElem?_range (by simpa using hj)] at hd
        cases hd
        simp
      subst hd'
      refine ite_of (fun h => ?_) (fun h => ?_)
      · have h := of_decide_eq_true h
        rw [List.length_map] at h
        have fin : ∀ b : Int, 0 ≤ b → b < 1000003 → wSs (FL []) C (.cons (.app 2 (.bin .mod (.bin .add (.bin .add (.bin .mul (.var 7) (.con (.int 16807))) (.bin .mul (.con (.int 31)) (.blt .len (.cons (.var 2) .nil)))) (.con (.int 17))) (.con (.int 1000003)))) .nil)
            [some ⟨false, scrD ns⟩, some ⟨false, .int m⟩, some ⟨true, intL gs⟩, v3, v4, some ⟨false, .int j⟩, v6, some ⟨false, .int b⟩]
            { nx := fun en => ∃ (gs : List Int) (v5 v7 : Option Slot), j + 1 ≤ gs.length ∧ gs.length ≤ 5000 ∧ Dr gs ∧ en = [some ⟨false, scrD ns⟩, some ⟨false, .int m⟩, some ⟨true, intL gs⟩, v3, v4, v5, v6, v7], rt := Q, bk := fun en => True, ct := fun en => True } := by
          intro b b1 b2
          refine ⟨mul_small (by omega) (by decide), mul_small (by decide) (show ((gs.map PyData.int).length : Int).natAbs < _ by rw [List.length_map]; omega), by decide, fz_ne, lim_lt (by omega), gs ++ [(b * 16807 + 31 * ((gs.map PyData.int).length : Int) + 17) % 1000003], some ⟨false, .int j⟩, some ⟨false, .int b⟩, by simp; omega, by simp; omega, hr.snoc, ?_⟩
          · rw [← app_map, ← fmod_pos _ (by decide)]
            rfl
        refine ⟨fz_ne, ite_of (fun h3 => ?_) (fun h3 => ?_)⟩
        · have h3 := of_decide_eq_true h3
          rw [List.length_map] at h3
          have hm0 := Int.emod_nonneg (j : Int) (show (gs.length : Int) ≠ 0 by omega)
          have hm1 := Int.emod_lt_of_pos (j : Int) (show (0 : Int) < (gs.length : Int) by omega)
          obtain ⟨z, hz⟩ := Int.eq_ofNat_of_zero_le hm0
          have hz2 : z < gs.length := by omega
          have g := hr gs[z] (List.getElem_mem _)
          refine ⟨by rw [List.length_map]; omega, .int gs[z], ?_, fz_ne, fin _ g.1 g.2⟩
          rw [List.length_map, fmod_pos _ (by omega), hz, atD_nat _ _ (by simpa using hz2), List.getElem?_map, List.getElem?_eq_getElem hz2]
          rfl
        · exact fin 0 (by decide) (by decide)
      · have h := of_decide_eq_false h
        rw [List.length_map] at h
        exact ⟨gs, _, _, by omega, by omega, hr, rfl⟩
    · obtain ⟨gs, v5, v7, h1, h2, hr, rfl⟩ := hI
      have hgl : m ≤ gs.length := by simpa [rangeD] using h1
      have e : cutD (gs.map PyData.int) none (some (m : Int)) = (gs.take m).map PyData.int := by
        unfold cutD
        rw [HT.sIx_none, HT.sIx_nat, List.length_map, List.drop_zero, List.map_take]
        congr 1
        omega
      have kk := k (gs.take m) (by rw [List.length_take]; omega) fun x hx => hr x (List.mem_of_mem_take hx)
      refine ⟨fr_ne, ?_⟩
      show Q (.list (cutD (gs.map PyData.int) none (some (m : Int))))
      rw [e]
      exact kk
end Mi

set_option Elab.async false
set_option linter.all false
set_option maxRecDepth 100000
set_option maxHeartbeats 2000000
/-! The law's own lengths. -/
namespace Mi
open PySem
/-- _law_gcd(first, second): first 0, second 1 -/
def cs_law_gcd : Cs := { N := ["first", "second"], fn := [], cn := [], ow := [] }
def m_law_gcd : Ss := (.cons (.par [0, 1] (.cons (.blt .abs (.cons (.var 0) .nil)) (.cons (.blt .abs (.cons (.var 1) .nil)) .nil)))
 (.cons (.whl (.cmp .gt (.var 1) (.con (.int 0))) (.cons (.par [0, 1] (.cons (.var 1) (.cons (.bin .mod (.var 0) (.var 1)) .nil)))
 .nil))
 (.cons (.ret (.var 0))
 .nil)))

/-- _law_norm(p, q, s): p 0, q 1, s 2, divisor 3 -/
def cs_law_norm : Cs := { N := ["p", "q", "s", "divisor"], fn := [("_law_gcd", 2)], cn := [], ow := [] }
def m_law_norm : Ss := (.cons (.ifs (.cmp .lt (.var 2) (.con (.int 0))) (.cons (.par [0, 1, 2] (.cons (.neg (.var 0)) (.cons (.neg (.var 1)) (.cons (.neg (.var 2)) .nil))))
 .nil) .nil)
 (.cons (.set false false 3 (.call false 0 (.cons (.call false 0 (.cons (.blt .abs (.cons (.var 0) .nil)) (.cons (.blt .abs (.cons (.var 1) .nil)) .nil))) (.cons (.var 2) .nil))))
 (.cons (.ret (.tup (.cons (.bin .fdiv (.var 0) (.var 3)) (.cons (.bin .fdiv (.var 1) (.var 3)) (.cons (.bin .fdiv (.var 2) (.var 3)) .nil)))))
 .nil)))

/-- _law_add(first, second): first 0, second 1 -/
def cs_law_add : Cs := { N := ["first", "second"], fn := [("_law_norm", 3)], cn := [], ow := [] }
def m_law_add : Ss := (.cons (.ret (.call false 0 (.cons (.bin .add (.bin .mul (.idx (.var 0) (.con (.int 0))) (.idx (.var 1) (.con (.int 2)))) (.bin .mul (.idx (.var 1) (.con (.int 0))) (.idx (.var 0) (.con (.int 2))))) (.cons (.bin .add (.bin .mul (.idx (.var 0) (.con (.int 1))) (.idx (.var 1) (.con (.int 2)))) (.bin .mul (.idx (.var 1) (.con (.int 1))) (.idx (.var 0) (.con (.int 2))))) (.cons (.bin .mul (.idx (.var 0) (.con (.int 2))) (.idx (.var 1) (.con (.int 2)))) .nil)))))
 .nil)

/-- _law_minus(first, second): first 0, second 1 -/
def cs_law_minus_v0 : Cs := { N := ["first", "second"], fn := [("_law_add", 2)], cn := [], ow := [] }
def m_law_minus_v0 : Ss := (.cons (.ret (.call false 0 (.cons (.var 0) (.cons (.tup (.cons (.neg (.idx (.var 1) (.con (.int 0)))) (.cons (.neg (.idx (.var 1) (.con (.int 1)))) (.cons (.idx (.var 1) (.con (.int 2))) .nil)))) .nil))))
 .nil)

/-- _law_times(root, first, second): root 0, first 1, second 2, p 3 -/
def cs_law_times_v0 : Cs := { N := ["root", "first", "second", "p"], fn := [("_law_norm", 3)], cn := [], ow := [] }
def m_law_times_v0 : Ss := (.cons (.set false false 3 (.bin .add (.bin .mul (.idx (.var 1) (.con (.int 0))) (.idx (.var 2) (.con (.int 0)))) (.bin .mul (.bin .mul (.var 0) (.idx (.var 1) (.con (.int 1)))) (.idx (.var 2) (.con (.int 1))))))
 (.cons (.ret (.call false 0 (.cons (.var 3) (.cons (.bin .add (.bin .mul (.idx (.var 1) (.con (.int 0))) (.idx (.var 2) (.con (.int 1)))) (.bin .mul (.idx (.var 1) (.con (.int 1))) (.idx (.var 2) (.con (.int 0))))) (.cons (.bin .mul (.idx (.var 1) (.con (.int 2))) (.idx (.var 2) (.con (.int 2)))) .nil)))))
 .nil))

/-- _law_by(root, first, second): root 0, first 1, second 2, under 3 -/
def cs_law_by : Cs := { N := ["root", "first", "second", "under"], fn := [("_law_times", 3), ("_law_norm", 3)], cn := [], ow := [] }
def m_law_by : Ss := (.cons (.set false false 3 (.bin .sub (.bin .mul (.idx (.var 2) (.con (.int 0))) (.idx (.var 2) (.con (.int 0)))) (.bin .mul (.bin .mul (.var 0) (.idx (.var 2) (.con (.int 1)))) (.idx (.var 2) (.con (.int 1))))))
 (.cons (.ret (.call false 0 (.cons (.var 0) (.cons (.var 1) (.cons (.call false 1 (.cons (.bin .mul (.idx (.var 2) (.con (.int 0))) (.idx (.var 2) (.con (.int 2)))) (.cons (.bin .mul (.neg (.idx (.var 2) (.con (.int 1)))) (.idx (.var 2) (.con (.int 2)))) (.cons (.var 3) .nil)))) .nil)))))
 .nil))

/-- _law_sign(root, number): root 0, number 1, p 2, q 3, first 4, second 5 -/
def cs_law_sign_v0 : Cs := { N := ["root", "number", "p", "q", "first", "second"], fn := [], cn := [], ow := [] }
def m_law_sign_v0 : Ss := (.cons (.par [2, 3] (.cons (.idx (.var 1) (.con (.int 0))) (.cons (.idx (.var 1) (.con (.int 1))) .nil)))
 (.cons (.par [4, 5] (.cons (.bin .sub (.blt .int (.cons (.cmp .gt (.var 2) (.con (.int 0))) .nil)) (.blt .int (.cons (.cmp .lt (.var 2) (.con (.int 0))) .nil))) (.cons (.bin .sub (.blt .int (.cons (.cmp .gt (.var 3) (.con (.int 0))) .nil)) (.blt .int (.cons (.cmp .lt (.var 3) (.con (.int 0))) .nil))) .nil)))
 (.cons (.ifs (.cmp .ge (.bin .mul (.var 4) (.var 5)) (.con (.int 0))) (.cons (.ret (.bin .sub (.blt .int (.cons (.cmp .gt (.bin .add (.var 4) (.var 5)) (.con (.int 0))) .nil)) (.blt .int (.cons (.cmp .lt (.bin .add (.var 4) (.var 5)) (.con (.int 0))) .nil))))
 .nil) .nil)
 (.cons (.ret (.idx (.lst (.cons (.var 5) (.cons (.var 4) .nil))) (.blt .int (.cons (.cmp .gt (.bin .mul (.var 2) (.var 2)) (.bin .mul (.bin .mul (.var 0) (.var 3)) (.var 3))) .nil))))
 .nil))))

/-- _law_root(digit): digit 0 -/
def cs_law_root_v0 : Cs := { N := ["digit"], fn := [], cn := [], ow := [] }
def m_law_root_v0 : Ss := (.cons (.ret (.idx (.lst (.cons (.con (.int 2)) (.cons (.con (.int 3)) (.cons (.con (.int 5)) (.cons (.con (.int 6)) (.cons (.con (.int 7)) (.cons (.con (.int 10)) (.cons (.con (.int 13)) (.cons (.con (.int 50)) .nil))))))))) (.bin .mod (.var 0) (.con (.int 8)))))
 .nil)

/-- _law_number(digits): digits 0 -/
def cs_law_number : Cs := { N := ["digits"], fn := [("_law_norm", 3)], cn := [], ow := [] }
def m_law_number : Ss := (.cons (.ret (.call false 0 (.cons (.bin .sub (.bin .mod (.idx (.var 0) (.con (.int 0))) (.con (.int 13))) (.con (.int 6))) (.cons (.bin .mul (.bin .sub (.bin .mod (.idx (.var 0) (.con (.int 1))) (.con (.int 7))) (.con (.int 3))) (.blt .int (.cons (.cmp .gt (.bin .mod (.idx (.var 0) (.con (.int 0))) (.con (.int 3))) (.con (.int 0))) .nil))) (.cons (.bin .add (.con (.int 1)) (.bin .mod (.idx (.var 0) (.con (.int 2))) (.con (.int 4)))) .nil)))))
 .nil)

/-- _law_above(root, digits): root 0, digits 1, number 2 -/
def cs_law_above_v0 : Cs := { N := ["root", "digits", "number"], fn := [("_law_number", 1), ("_law_sign", 2)], cn := [], ow := [] }
def m_law_above_v0 : Ss := (.cons (.set false false 2 (.call false 0 (.cons (.var 1) .nil)))
 (.cons (.ifs (.cmp .eq (.call false 1 (.cons (.var 0) (.cons (.var 2) .nil))) (.con (.int 0))) (.cons (.ret (.tup (.cons (.con (.int 1)) (.cons (.con (.int 0)) (.cons (.bin .add (.con (.int 1)) (.bin .mod (.idx (.var 1) (.con (.int 2))) (.con (.int 3)))) .nil)))))
 .nil) .nil)
 (.cons (.ifs (.cmp .lt (.call false 1 (.cons (.var 0) (.cons (.var 2) .nil))) (.con (.int 0))) (.cons (.ret (.tup (.cons (.neg (.idx (.var 2) (.con (.int 0)))) (.cons (.neg (.idx (.var 2) (.con (.int 1)))) (.cons (.idx (.var 2) (.con (.int 2))) .nil)))))
 .nil) .nil)
 (.cons (.ret (.var 2))
 .nil))))

/-- _law_isqrt(number): number 0, guess 1, following 2 -/
def cs_law_isqrt : Cs := { N := ["number", "guess", "following"], fn := [], cn := [], ow := [] }
def m_law_isqrt : Ss := (.cons (.set false false 1 (.bin .add (.var 0) (.con (.int 1))))
 (.cons (.set false false 2 (.bin .fdiv (.bin .add (.var 1) (.con (.int 1))) (.con (.int 2))))
 (.cons (.whl (.cmp .lt (.var 2) (.var 1)) (.cons (.set false false 1 (.var 2))
 (.cons (.set false false 2 (.bin .fdiv (.bin .add (.var 1) (.bin .fdiv (.var 0) (.var 1))) (.con (.int 2))))
 .nil)))
 (.cons (.ret (.var 1))
 .nil))))

/-- _law_floor(root, number): root 0, number 1, p 2, q 3, s 4, part 5 -/
def cs_law_floor_v0 : Cs := { N := ["root", "number", "p", "q", "s", "part"], fn := [("_law_isqrt", 1)], cn := [], ow := [] }
def m_law_floor_v0 : Ss := (.cons (.unp false [2, 3, 4] (.var 1))
 (.cons (.set false false 5 (.call false 0 (.cons (.bin .mul (.bin .mul (.var 0) (.var 3)) (.var 3)) .nil)))
 (.cons (.ifs (.cmp .lt (.var 3) (.con (.int 0))) (.cons (.set false false 5 (.bin .sub (.neg (.var 5)) (.con (.int 1))))
 .nil) .nil)
 (.cons (.ret (.bin .fdiv (.bin .add (.var 2) (.var 5)) (.var 4)))
 .nil))))

/-- _law_size(root, number): root 0, number 1 -/
def cs_law_size : Cs := { N := ["root", "number"], fn := [("_law_sign", 2)], cn := [], ow := [] }
def m_law_size : Ss := (.cons (.ifs (.cmp .lt (.call false 0 (.cons (.var 0) (.cons (.var 1) .nil))) (.con (.int 0))) (.cons (.ret (.tup (.cons (.neg (.idx (.var 1) (.con (.int 0)))) (.cons (.neg (.idx (.var 1) (.con (.int 1)))) (.cons (.idx (.var 1) (.con (.int 2))) .nil)))))
 .nil) .nil)
 (.cons (.ret (.var 1))
 .nil))

/-- _law_share(digit, most): digit 0, most 1 -/
def cs_law_share : Cs := { N := ["digit", "most"], fn := [("_law_norm", 3)], cn := [], ow := [] }
def m_law_share : Ss := (.cons (.ret (.call false 0 (.cons (.bin .mod (.var 0) (.bin .add (.var 1) (.con (.int 1)))) (.cons (.con (.int 0)) (.cons (.bin .add (.con (.int 1)) (.bin .mod (.bin .fdiv (.var 0) (.con (.int 11))) (.con (.int 4)))) .nil)))))
 .nil)

/-- _law_within(numbers, most): numbers 0, most 1, number 2 -/
def cs_law_within : Cs := { N := ["numbers", "most", "number"], fn := [], cn := [], ow := [] }
def m_law_within : Ss := (.cons (.for_ false (.one 2) (.seq (.var 0)) (.cons (.ifs (.cmp .gt (.blt .max (.cons (.blt .abs (.cons (.idx (.var 2) (.con (.int 0))) .nil)) (.cons (.blt .abs (.cons (.idx (.var 2) (.con (.int 1))) .nil)) (.cons (.idx (.var 2) (.con (.int 2))) .nil)))) (.var 1)) (.cons (.ret (.con (.bool false)))
 .nil) .nil)
 .nil))
 (.cons (.ret (.con (.bool true)))
 .nil))

def φ_law_gcd : Spc := fun ds Q => ∃ i j : Int, ds = [.int i, .int j] ∧ Q (.int (Int.gcd i j : Nat))
theorem M_law_gcd : MonoS φ_law_gcd := fun _ _ _ h ⟨a, b, e, q⟩ => ⟨a, b, e, h _ q⟩
theorem whl_step {F : Nat → Spc} {C : Nat → PyData} {c : E} {b ss : Ss} {en : En} {D : Dn} (h : wS F C (.whl c b) en { D with nx := fun en' => wSs F C ss en' D }) : wSs F C (.cons (.whl c b) ss) en D := h
theorem c_law_gcd (C : Nat → PyData) : ∀ ds Q, φ_law_gcd ds Q → wDef (FL []) C m_law_gcd 2 ds Q := by
  rintro _ Q ⟨i, j, rfl, q⟩
  refine ⟨rfl, rfl, whl_step ?_⟩
  refine whl_rule (fl_mono FM0) (fun n en => ∃ a b : Int, 0 ≤ a ∧ 0 ≤ b ∧ n = b.toNat ∧ Int.gcd a b = Int.gcd i j ∧ en = [some ⟨false, .int a⟩, some ⟨false, .int b⟩]) (absI j).toNat ⟨absI i, absI j, absI_nn _, absI_nn _, rfl, gcd_abs i j, rfl⟩ (fun n en h => ?_)
  obtain ⟨a, b, ha, hb, rfl, hg, rfl⟩ := h
  refine ite_of (fun h => ?_) (fun h => ?_)
  · have h := of_decide_eq_true h
    have e : a.fmod b = a % b := Int.fmod_eq_emod_of_nonneg a hb
    have l1 := Int.emod_nonneg a (show b ≠ 0 by omega)
    have l2 := Int.emod_lt_of_pos a h
    refine ⟨by omega, rfl, rfl, _, ?_, b, a.fmod b, hb, by omega, rfl, ?_, rfl⟩
    · omega
    · rw [e, ← hg, gcd_step a b ha hb]
  · have h := of_decide_eq_false h
    obtain rfl : b = 0 := by omega
    refine ⟨fz_ne, ?_⟩
    have := gcd_end a ha
    rw [hg] at this
    rw [this] at q
    exact q
theorem g3_neg3 (p q s : Int) : QD.g3 (-p) (-q) (-s) = QD.g3 p q s := by
  unfold QD.g3
  rw [Int.neg_gcd, Int.gcd_neg, Int.gcd_neg]
theorem fdiv_neg_neg (a b : Int) (hd : b ∣ a) : (-a).fdiv b = a.fdiv (-b) := by
  rw [Int.fdiv_eq_ediv_of_dvd (Int.dvd_neg.mpr hd), Int.fdiv_eq_ediv_of_dvd (Int.neg_dvd.mpr hd), Int.neg_ediv_of_dvd hd, Int.ediv_neg]
theorem c_law_norm (C : Nat → PyData) : ∀ ds Q, φ_length ds Q → wDef (FL [φ_law_gcd]) C m_law_norm 4 ds Q := by
  rintro _ Q ⟨d, p, q, s, rfl, f, k⟩
  rw [L_mk f.1] at k
  have fin : ∀ p' q' s' : Int, (∀ a, fdivOk a (QD.g3 p' q' s')) → Q (.tuple [.int (p'.fdiv (QD.g3 p' q' s')), .int (q'.fdiv (QD.g3 p' q' s')), .int (s'.fdiv (QD.g3 p' q' s'))]) → wSs (FL [φ_law_gcd]) C (.cons (.set false false 3 (.call false 0 (.cons (.call false 0 (.cons (.blt .abs (.cons (.var 0) .nil)) (.cons (.blt .abs (.cons (.var 1) .nil)) .nil))) (.cons (.var 2) .nil))))
 (.cons (.ret (.tup (.cons (.bin .fdiv (.var 0) (.var 3)) (.cons (.bin .fdiv (.var 1) (.var 3)) (.cons (.bin .fdiv (.var 2) (.var 3)) .nil)))))
 .nil)) [some ⟨false, .int p'⟩, some ⟨false, .int q'⟩, some ⟨false, .int s'⟩, none] { nx := fun _ => Q .none, rt := Q, bk := fun _ => False, ct := fun _ => False } := by
    intro p' q' s' g kk
    refine ⟨_, _, rfl, _, _, rfl, fz_ne, ?_⟩
    have e : Int.gcd (Int.gcd (absI p') (absI q') : Nat) s' = Int.gcd (Int.gcd p' q' : Nat) s' := by rw [gcd_abs]
    have e2 : ((Int.gcd (Int.gcd (if p' < 0 then -p' else p') (if q' < 0 then -q' else q') : Nat) s' : Nat) : Int) = QD.g3 p' q' s' := congrArg (fun n : Nat => (n : Int)) e
    rw [e2]
    exact ⟨g _, g _, g _, rfl, by simp, fz_ne, kk⟩
  have g := gs_ok (p := p) (q := q) f
  obtain ⟨d1, d2, d3⟩ := QD.g3_dvd p q s
  refine ite_of (fun h => ?_) (fun h => ?_)
  · have h := of_decide_eq_true h
    have e : QD.gs p q s = -QD.g3 p q s := if_pos h
    rw [e] at k g
    refine ⟨rfl, rfl, fin _ _ _ (fun a => ?_) ?_⟩
    · rw [g3_neg3]
      have := g a
      unfold fdivOk at this ⊢
      have e2 : Builtin.Int.intBits (-QD.g3 p q s) = Builtin.Int.intBits (QD.g3 p q s) := by unfold Builtin.Int.intBits; simp
      rw [e2] at this
      simpa using this
    · rw [g3_neg3, fdiv_neg_neg _ _ d1, fdiv_neg_neg _ _ d2, fdiv_neg_neg _ _ d3]
      exact k
  · have h := of_decide_eq_false h
    have e : QD.gs p q s = QD.g3 p q s := if_neg h
    rw [e] at k g
    exact fin _ _ _ g k
theorem c_law_add (C : Nat → PyData) : ∀ ds Q, φ_plus ds Q → wDef (FL [φ_length]) C m_law_add 2 ds Q := by
  rintro _ Q ⟨d, x, y, rfl, hx, hy, k⟩
  rw [QD.add_mk] at k
  exact ⟨_, rfl, _, rfl, mul_ok hx.hp hy.hs (by omega), _, rfl, _, rfl, mul_ok hy.hp hx.hs (by omega), _, rfl, _, rfl, mul_ok hx.hq hy.hs (by omega), _, rfl, _, rfl, mul_ok hy.hq hx.hs (by omega), _, rfl, _, rfl, mul_ok hx.hs hy.hs (by omega), d, _, _, _, rfl, fit_mul hx hy (by omega), fz_ne, k⟩
theorem c_law_minus_v0 (C : Nat → PyData) : ∀ ds Q, φ_minus ds Q → wDef (FL [φ_plus]) C m_law_minus_v0 2 ds Q := by
  rintro _ Q ⟨d, x, y, rfl, hx, hy, k⟩
  rw [QD.sub_eq] at k
  exact ⟨_, rfl, _, rfl, _, rfl, rfl, by simp, d, x, -y, congrArg (fun z => [x.L, z]) (L_neg y).symm, hx, hy.neg, fz_ne, k⟩
theorem c_law_times_v0 (C : Nat → PyData) : ∀ ds Q, φ_times ds Q → wDef (FL [φ_length]) C m_law_times_v0 4 ds Q := by
  rintro _ Q ⟨d, hr, x, y, rfl, hx, hy, k⟩
  rw [QD.mul_mk] at k
  exact ⟨_, rfl, _, rfl, mul_ok hx.hp hy.hp (by omega), _, rfl, mul_ok QD.root_bit hx.hq (by omega), _, rfl, mul_ok (QD.mul_bit QD.root_bit hx.hq) hy.hq (by omega), fz_ne, _, rfl, _, rfl, mul_ok hx.hp hy.hq (by omega), _, rfl, _, rfl, mul_ok hx.hq hy.hp (by omega), _, rfl, _, rfl, mul_ok hx.hs hy.hs (by omega), d, _, _, _, rfl, fit_mul hx hy (by omega), fz_ne, k⟩
theorem c_law_by (C : Nat → PyData) : ∀ ds Q, φ_over ds Q → wDef (FL [φ_times, φ_length]) C m_law_by 4 ds Q := by
  rintro _ Q ⟨d, hr, x, y, rfl, hx, hy, h0, k⟩
  have e : (QD.mkQ (y.p * y.s) (-y.q * y.s) y.nn : QD d) = y⁻¹ := by
    rw [QD.inv_mk h0, Int.mul_comm y.p, show -y.q * y.s = -y.s * y.q by grind]
  refine ⟨_, rfl, _, rfl, mul_ok hy.hp hy.hp (by omega), _, rfl, mul_ok QD.root_bit hy.hq (by omega), _, rfl, mul_ok (QD.mul_bit QD.root_bit hy.hq) hy.hq (by omega), fz_ne, _, rfl, _, rfl, mul_ok hy.hp hy.hs (by omega), _, rfl, _, rfl, mul_ok (a := -y.q) (by rw [Int.natAbs_neg]; exact hy.hq) hy.hs (by omega), d, _, _, y.nn, rfl, ⟨QD.nn_ne h0, QD.bit_mono (nn_bit hy) (by omega)⟩, ?_⟩
  rw [e]
  exact ⟨d, hr, x, y⁻¹, rfl, hx.mono (by omega), (hy.inv h0).mono (by omega), fz_ne, k⟩
theorem c_law_sign_v0 (C : Nat → PyData) : ∀ ds Q, φ_sign_of ds Q → wDef (FL []) C m_law_sign_v0 6 ds Q := by
  rintro _ Q ⟨d, hr, x, rfl, hx, k⟩
  rw [QD.sg_law] at k
  have sb : ∀ i, (sgn i).natAbs < 2 ^ 2 := fun i => by rcases sgn_cases i with ⟨_, e⟩ | ⟨_, e⟩ | ⟨_, e⟩ <;> rw [e] <;> decide
  refine ⟨_, rfl, _, rfl, rfl, rfl, rfl, rfl, mul_ok (sb _) (sb _) (by omega), ite_of (fun h => ?_) (fun h => ?_)⟩
  · have h : 0 ≤ sgn x.p * sgn x.q := of_decide_eq_true h
    rw [if_pos h] at k
    exact ⟨fz_ne, k⟩
  · have h : ¬ 0 ≤ sgn x.p * sgn x.q := of_decide_eq_false h
    rw [if_neg h] at k
    refine ⟨rfl, by simp, mul_ok hx.hp hx.hp (by omega), mul_ok QD.root_bit hx.hq (by omega), mul_ok (QD.mul_bit QD.root_bit hx.hq) hx.hq (by omega), ?_⟩
    by_cases c : d * x.q * x.q < x.p * x.p
    · rw [if_pos c] at k
      refine ⟨.int (sgn x.p), ?_, fz_ne, k⟩
      rw [decide_eq_true c]
      rfl
    · rw [if_neg c] at k
      refine ⟨.int (sgn x.q), ?_, fz_ne, k⟩
      rw [decide_eq_false c]
      rfl
def φ_law_root : Spc := fun ds Q => ∃ k : Int, ds = [.int k] ∧ ∀ d, Rt d → Q (.int d)
theorem M_law_root : MonoS φ_law_root := fun _ _ _ h ⟨a, e, q⟩ => ⟨a, e, fun d hd => h _ (q d hd)⟩
theorem c_law_root_v0 (C : Nat → PyData) : ∀ ds Q, φ_law_root ds Q → wDef (FL []) C m_law_root_v0 1 ds Q := by
  rintro _ Q ⟨k, rfl, q⟩
  refine ⟨rfl, by simp, by decide, ?_⟩
  have h1 := Int.emod_nonneg k (show (8 : Int) ≠ 0 by decide)
  have h2 := Int.emod_lt_of_pos k (show (0 : Int) < 8 by decide)
  rw [fmod_pos _ (by decide)]
  obtain ⟨z, hz⟩ := Int.eq_ofNat_of_zero_le h1
  rw [hz] at h2 ⊢
  have : z < 8 := by omega
  have all : ∀ z : Nat, z < 8 → ∃ d, Rt d ∧ atD [.int 2, .int 3, .int 5, .int 6, .int 7, .int 10, .int 13, .int 50] (z : Int) = some (.int d) := by
    intro z hz
    match z, hz with
    | 0, _ => exact ⟨2, ⟨by decide⟩, rfl⟩
    | 1, _ => exact ⟨3, ⟨by decide⟩, rfl⟩
    | 2, _ => exact ⟨5, ⟨by decide⟩, rfl⟩
    | 3, _ => exact ⟨6, ⟨by decide⟩, rfl⟩
    | 4, _ => exact ⟨7, ⟨by decide⟩, rfl⟩
    | 5, _ => exact ⟨10, ⟨by decide⟩, rfl⟩
    | 6, _ => exact ⟨13, ⟨by decide⟩, rfl⟩
    | 7, _ => exact ⟨50, ⟨by decide⟩, rfl⟩
  obtain ⟨d, hd, e⟩ := all z this
  exact ⟨_, e, fz_ne, q d hd⟩
end Mi

set_option Elab.async false
set_option linter.all false
set_option maxRecDepth 100000
set_option maxHeartbeats 2000000
/-! The law's drawn lengths. -/
namespace Mi
open PySem
theorem sg_neg {d : Int} (x : QD d) : (-x).sg = -x.sg := by
  obtain ⟨e1, e2, e3⟩ := QD.enc_neg x
  unfold QD.sg
  rw [e1, e2]
  have s : ∀ i, sgn (-i) = -sgn i := fun i => by
    rcases sgn_cases i with ⟨h, e⟩ | ⟨h, e⟩ | ⟨h, e⟩ <;> rw [e]
    · exact sgn_neg (by omega)
    · rw [h]; rfl
    · exact sgn_pos (by omega)
  rw [show -x.p * -x.q = x.p * x.q by grind, show d * -x.q * -x.q = d * x.q * x.q by grind, show -x.p * -x.p = x.p * x.p by grind, show -x.p + -x.q = -(x.p + x.q) by omega, s, s, s]
  split
  · rfl
  · split <;> rfl
/-- an index into ints -/
theorem atI_get {ns : List Int} {i : Nat} (h : i < ns.length) : ∃ x, x ∈ ns ∧ atD (ns.map PyData.int) (i : Int) = some (.int x) := by
  refine ⟨ns[i], List.getElem_mem _, ?_⟩
  rw [atD_nat _ _ (by simpa using h), List.getElem?_map, List.getElem?_eq_getElem h]
  rfl
theorem at0 {ns : List Int} (h : 0 < ns.length) (hd : Dr ns) : ∃ x, (0 ≤ x ∧ x < 1000003) ∧ atD (ns.map PyData.int) 0 = some (.int x) := let ⟨x, m, e⟩ := atI_get h; ⟨x, hd x m, e⟩
theorem at1 {ns : List Int} (h : 1 < ns.length) (hd : Dr ns) : ∃ x, (0 ≤ x ∧ x < 1000003) ∧ atD (ns.map PyData.int) 1 = some (.int x) := let ⟨x, m, e⟩ := atI_get h; ⟨x, hd x m, e⟩
theorem at2 {ns : List Int} (h : 2 < ns.length) (hd : Dr ns) : ∃ x, (0 ≤ x ∧ x < 1000003) ∧ atD (ns.map PyData.int) 2 = some (.int x) := let ⟨x, m, e⟩ := atI_get h; ⟨x, hd x m, e⟩
theorem at3 {ns : List Int} (h : 3 < ns.length) (hd : Dr ns) : ∃ x, (0 ≤ x ∧ x < 1000003) ∧ atD (ns.map PyData.int) 3 = some (.int x) := let ⟨x, m, e⟩ := atI_get h; ⟨x, hd x m, e⟩
theorem fmod_rng (a : Int) {b : Int} (h : 0 < b) : 0 ≤ a.fmod b ∧ a.fmod b < b := by
  rw [fmod_pos a h]
  exact ⟨Int.emod_nonneg _ (by omega), Int.emod_lt_of_pos _ h⟩
/-- _law_made_shape(root, r, digits): root 0, r 1, digits 2, first 3, second 4, x 5 -/
def cs_law_made_shape : Cs := { N := ["root", "r", "digits", "first", "second", "x"], fn := [("_law_add", 2), ("_law_share", 2), ("_law_times", 3), ("_law_by", 3)], cn := [], ow := [] }
def m_law_made_shape : Ss := (.cons (.par [3, 4] (.cons (.call false 1 (.cons (.idx (.var 2) (.con (.int 0))) (.cons (.con (.int 5)) .nil))) (.cons (.call false 1 (.cons (.idx (.var 2) (.con (.int 1))) (.cons (.con (.int 4)) .nil))) .nil)))
 (.cons (.set false false 5 (.call false 0 (.cons (.call false 2 (.cons (.var 0) (.cons (.var 3) (.cons (.var 1) .nil)))) (.cons (.call false 3 (.cons (.var 0) (.cons (.var 4) (.cons (.var 1) .nil)))) .nil))))
 (.cons (.ifs (.cmp .eq (.var 5) (.tup (.cons (.con (.int 0)) (.cons (.con (.int 0)) (.cons (.con (.int 1)) .nil))))) (.cons (.ret (.var 1))
 .nil) .nil)
 (.cons (.ret (.var 5))
 .nil))))

/-- _law_some_shape(root, digits): root 0, digits 1, kind 2 -/
def cs_law_some_shape : Cs := { N := ["root", "digits", "kind"], fn := [("_law_above", 2), ("_law_norm", 3), ("_law_add", 2), ("_law_floor", 2)], cn := [], ow := [] }
def m_law_some_shape : Ss := (.cons (.set false false 2 (.bin .mod (.idx (.var 1) (.con (.int 0))) (.con (.int 5))))
 (.cons (.ifs (.cmp .eq (.var 2) (.con (.int 0))) (.cons (.ret (.call false 1 (.cons (.bin .add (.con (.int 1)) (.bin .mod (.idx (.var 1) (.con (.int 1))) (.con (.int 9)))) (.cons (.con (.int 0)) (.cons (.bin .add (.con (.int 1)) (.bin .mod (.idx (.var 1) (.con (.int 2))) (.con (.int 6)))) .nil)))))
 .nil) .nil)
 (.cons (.ifs (.cmp .eq (.var 2) (.con (.int 1))) (.cons (.ret (.call false 1 (.cons (.con (.int 0)) (.cons (.bin .add (.con (.int 1)) (.bin .mod (.idx (.var 1) (.con (.int 1))) (.con (.int 4)))) (.cons (.bin .add (.con (.int 1)) (.bin .mod (.idx (.var 1) (.con (.int 2))) (.con (.int 4)))) .nil)))))
 .nil) .nil)
 (.cons (.ifs (.cmp .eq (.var 2) (.con (.int 2))) (.cons (.ret (.call false 2 (.cons (.tup (.cons (.bin .add (.call false 3 (.cons (.var 0) (.cons (.tup (.cons (.con (.int 0)) (.cons (.bin .add (.con (.int 1)) (.bin .mod (.idx (.var 1) (.con (.int 1))) (.con (.int 2)))) (.cons (.con (.int 1)) .nil)))) .nil))) (.con (.int 1))) (.cons (.con (.int 0)) (.cons (.con (.int 1)) .nil)))) (.cons (.tup (.cons (.con (.int 0)) (.cons (.bin .add (.con (.int 1)) (.bin .mod (.idx (.var 1) (.con (.int 1))) (.con (.int 2)))) (.cons (.con (.int 1)) .nil)))) .nil))))
 .nil) .nil)
 (.cons (.ret (.call false 0 (.cons (.var 0) (.cons (.slc (.var 1) (.con (.int 1)) (.con (.int 4))) .nil))))
 .nil)))))

def φ_law_number : Spc := fun ds Q => ∃ (d : Int) (ns : List Int), ds = [intL ns] ∧ 3 ≤ ns.length ∧ Dr ns ∧ ∀ x : QD d, x.Bd 3 → Q x.L
theorem M_law_number : MonoS φ_law_number := fun _ _ _ h ⟨d, a, e, p1, p2, q⟩ => ⟨d, a, e, p1, p2, fun x hx => h _ (q x hx)⟩
theorem c_law_number (C : Nat → PyData) : ∀ ds Q, φ_law_number ds Q → wDef (FL [φ_length]) C m_law_number 1 ds Q := by
  rintro _ Q ⟨d, ns, rfl, hl, hd, k⟩
  obtain ⟨x, hx, e0⟩ := at0 (by omega) hd
  obtain ⟨y, hy, e1⟩ := at1 (by omega) hd
  obtain ⟨z, hz, e2⟩ := at2 (by omega) hd
  have r1 := fmod_rng x (show (0 : Int) < 13 by decide)
  have r2 := fmod_rng y (show (0 : Int) < 7 by decide)
  have r3 := fmod_rng z (show (0 : Int) < 4 by decide)
  have r4 : ∀ b : Bool, (y.fmod 7 - 3) * (if b = true then 1 else 0) = (y.fmod 7 - 3) ∨ (y.fmod 7 - 3) * (if b = true then 1 else 0) = 0 := fun b => by cases b <;> simp
  have r5 : ∀ b : Bool, ((y.fmod 7 - 3) * (if b = true then 1 else 0)).natAbs < 2 ^ 3 := fun b => by rcases r4 b with h | h <;> rw [h] <;> omega
  refine ⟨_, e0, by decide, _, e1, by decide, _, e0, by decide, ?_, _, e2, by decide, d, _, _, _, rfl, ⟨by omega, ?_⟩, fz_ne, k _ (.mk' (by omega) (by omega) (r5 _) (by omega))⟩
  · refine mul_small (by omega) ?_
    split <;> decide
  · have : (1 + z.fmod 4).natAbs < 2 ^ 3 := by omega
    exact QD.bit_mono this (by decide)
def φ_law_above : Spc := fun ds Q => ∃ (d : Int) (_ : Rt d) (ns : List Int), ds = [.int d, intL ns] ∧ 3 ≤ ns.length ∧ Dr ns ∧ ∀ x : QD d, x.Bd 3 → x.sg = 1 → Q x.L
theorem M_law_above : MonoS φ_law_above := fun _ _ _ h ⟨d, hr, a, e, p1, p2, q⟩ => ⟨d, hr, a, e, p1, p2, fun x hx h1 => h _ (q x hx h1)⟩
theorem g3_one (q s : Int) : QD.g3 1 q s = 1 := by unfold QD.g3; simp
theorem L_frac1 {d : Int} {s : Int} (h : 0 < s) : ∃ x : QD d, PyData.tuple [.int 1, .int 0, .int s] = x.L ∧ x.p = 1 ∧ x.q = 0 ∧ x.s = s := by
  have hs := QD.cast_ne (show s ≠ 0 by omega)
  obtain ⟨e1, e2, e3⟩ := QD.of_is (x := (QD.mkQ 1 0 s : QD d)) (p := 1) (q := 0) (s := s) ⟨h, g3_one 0 s, by show _ = ((1 : Int) : Rat) / s * s; grind, by show _ = ((0 : Int) : Rat) / s * s; grind⟩
  exact ⟨_, by unfold QD.L; rw [e1, e2, e3], e1, e2, e3⟩
theorem c_law_above_v0 (C : Nat → PyData) : ∀ ds Q, φ_law_above ds Q → wDef (FL [φ_law_number, φ_sign_of]) C m_law_above_v0 3 ds Q := by
  rintro _ Q ⟨d, hr, ns, rfl, hl, hd, k⟩
  refine ⟨d, ns, rfl, hl, hd, fun x hx => ⟨fz_ne, d, hr, x, rfl, hx.mono (by omega), rfl, rfl, ite_of (fun h => ?_) (fun h => ?_)⟩⟩
  · obtain ⟨z, hz, e2⟩ := at2 (by omega) hd
    have r3 := fmod_rng z (show (0 : Int) < 3 by decide)
    obtain ⟨y, ey, e1, e2', e3⟩ := L_frac1 (d := d) (s := 1 + z.fmod 3) (by omega)
    have kk := k y ⟨by rw [e1]; decide, by rw [e2']; decide, by rw [e3]; omega⟩ (by rw [QD.sg_frac e2', e1]; rfl)
    rw [← ey] at kk
    exact ⟨_, e2, by decide, rfl, by simp, fz_ne, kk⟩
  · have h0 : x.sg ≠ 0 := ne_of_beq_false h
    refine ⟨d, hr, x, rfl, hx.mono (by omega), callW_fz rfl (ite_of (fun h => ?_) (fun h => ?_))⟩
    · have h := of_decide_eq_true h
      have : x.sg = -1 := by rcases QD.sg_cases x with h | h | h <;> omega
      have kk := k (-x) hx.neg (by rw [sg_neg, this]; rfl)
      rw [L_neg] at kk
      exact ⟨_, rfl, _, rfl, _, rfl, rfl, by simp, fz_ne, kk⟩
    · have h := of_decide_eq_false h
      have : x.sg = 1 := by rcases QD.sg_cases x with h | h | h <;> omega
      exact ⟨fz_ne, k x hx this⟩
def φ_law_isqrt : Spc := fun ds Q => ∃ n : Int, ds = [.int n] ∧ 1 ≤ n ∧ n < 2 ^ 100 ∧ ∀ g, 1 ≤ g → g * g ≤ n → n < (g + 1) * (g + 1) → Q (.int g)
theorem M_law_isqrt : MonoS φ_law_isqrt := fun _ _ _ h ⟨d, e, p1, p2, q⟩ => ⟨d, e, p1, p2, fun x h1 h2 h3 => h _ (q x h1 h2 h3)⟩
theorem newton {n g : Int} (hn : 1 ≤ n) (hg : 1 ≤ g) (h : n < (g + 1) * (g + 1)) : 1 ≤ (g + n / g) / 2 ∧ n < ((g + n / g) / 2 + 1) * ((g + n / g) / 2 + 1) ∧ (g ≤ (g + n / g) / 2 → g * g ≤ n) := by
  have hm := Int.emod_add_mul_ediv n g
  have hm1 := Int.emod_nonneg n (show g ≠ 0 by omega)
  have hm2 := Int.emod_lt_of_pos n (show 0 < g by omega)
  have hm0 : 0 ≤ n / g := Int.ediv_nonneg (by omega) (by omega)
  generalize n / g = m at *
  generalize n % g = r at *
  have hf : 2 * ((g + m) / 2) ≤ g + m ∧ g + m + 1 ≤ 2 * ((g + m) / 2 + 1) := by omega
  generalize (g + m) / 2 = f at *
  have hgm : n < g * (m + 1) := by
    have : g * (m + 1) = g * m + g := by grind
    omega
  refine ⟨?_, ?_, fun h2 => ?_⟩
  · apply Int.not_lt.mp
    intro c
    have : g = 1 ∧ m = 0 := by omega
    obtain ⟨rfl, rfl⟩ := this
    omega
  · have k1 : (g + (m + 1)) * (g + (m + 1)) ≤ (2 * (f + 1)) * (2 * (f + 1)) := Int.mul_le_mul (by omega) (by omega) (by omega) (by omega)
    have k2 : 0 ≤ (g - (m + 1)) * (g - (m + 1)) := by
      rcases Int.le_total 0 (g - (m + 1)) with c | c
      · exact Int.mul_nonneg c c
      · have := Int.mul_nonneg (show 0 ≤ -(g - (m + 1)) by omega) (show 0 ≤ -(g - (m + 1)) by omega)
        grind
    have k3 : (g + (m + 1)) * (g + (m + 1)) = (g - (m + 1)) * (g - (m + 1)) + 4 * (g * (m + 1)) := by grind
    have k4 : (2 * (f + 1)) * (2 * (f + 1)) = 4 * ((f + 1) * (f + 1)) := by grind
    omega
  · have : g ≤ m := by omega
    have := Int.mul_le_mul_of_nonneg_left this (show 0 ≤ g by omega)
    omega
theorem c_law_isqrt (C : Nat → PyData) : ∀ ds Q, φ_law_isqrt ds Q → wDef (FL []) C m_law_isqrt 3 ds Q := by
  rintro _ Q ⟨n, rfl, hn, hb, k⟩
  refine ⟨fz_ne, fdiv_small (by decide) (by decide), fz_ne, whl_step ?_⟩
  refine whl_rule (fl_mono FM0) (fun j en => ∃ g f : Int, j = g.toNat ∧ 1 ≤ g ∧ g ≤ n + 1 ∧ 1 ≤ f ∧ n < (g + 1) * (g + 1) ∧ n < (f + 1) * (f + 1) ∧ (g ≤ f → g * g ≤ n) ∧ en = [some ⟨false, .int n⟩, some ⟨false, .int g⟩, some ⟨false, .int f⟩]) _ ⟨n + 1, (n + 1 + 1).fdiv 2, rfl, by omega, by omega, ?_, ?_, ?_, ?_, rfl⟩ (fun j en h => ?_)
  · rw [fdiv_pos _ (by decide)]; omega
  · have : (n + 1 + 1) * (n + 1 + 1) = n * n + 4 * n + 4 := by grind
    have := Int.mul_nonneg (show 0 ≤ n by omega) (show 0 ≤ n by omega)
    omega
  · rw [fdiv_pos _ (by decide)]
    have h1 : n + 3 ≤ 2 * ((n + 1 + 1) / 2 + 1) := by omega
    generalize (n + 1 + 1) / 2 = f at *
    have k1 : (n + 3) * (n + 3) ≤ (2 * (f + 1)) * (2 * (f + 1)) := Int.mul_le_mul h1 h1 (by omega) (by omega)
    have k4 : (2 * (f + 1)) * (2 * (f + 1)) = 4 * ((f + 1) * (f + 1)) := by grind
    have k5 : (n + 3) * (n + 3) = n * n + 6 * n + 9 := by grind
    have := Int.mul_nonneg (show 0 ≤ n by omega) (show 0 ≤ n by omega)
    omega
  · rw [fdiv_pos _ (by decide)]
    intro h; omega
  · obtain ⟨g, f, rfl, h1, h2, h3, h4, h5, h6, rfl⟩ := h
    refine ite_of (fun h => ?_) (fun h => ?_)
    · have h := of_decide_eq_true h
      obtain ⟨q1, q2, q3⟩ := newton hn h3 h5
      refine ⟨fz_ne, fdiv_small (by omega) (by omega), fdiv_small (by decide) (by decide), fz_ne, f.toNat, by omega, f, (f + n / f) / 2, rfl, h3, by omega, q1, h5, q2, q3, ?_⟩
      rw [← fdiv_pos n (by omega), ← fdiv_pos _ (show (0 : Int) < 2 by decide)]
      rfl
    · have h := of_decide_eq_false h
      exact ⟨fz_ne, k g h1 (h6 (by omega)) h4⟩
def flG {d : Int} (x : QD d) (g : Int) : Int := (x.p + (if x.q < 0 then -g - 1 else g)).fdiv x.s
def φ_law_floor : Spc := fun ds Q => ∃ (d : Int) (_ : Rt d) (x : QD d), ds = [.int d, x.L] ∧ x.q ≠ 0 ∧ x.Bd 40 ∧ ∀ g, 1 ≤ g → g * g ≤ d * x.q * x.q → d * x.q * x.q < (g + 1) * (g + 1) → Q (.int (flG x g))
theorem M_law_floor : MonoS φ_law_floor := fun _ _ _ h ⟨d, hr, a, e, p1, p2, q⟩ => ⟨d, hr, a, e, p1, p2, fun x h1 h2 h3 => h _ (q x h1 h2 h3)⟩
theorem sq_pos {a : Int} (h : a ≠ 0) : 1 ≤ a * a := by
  rcases Int.lt_or_gt_of_ne h with c | c
  · have := Int.mul_pos_of_neg_of_neg c c; omega
  · have := Int.mul_pos c c; omega
theorem c_law_floor_v0 (C : Nat → PyData) : ∀ ds Q, φ_law_floor ds Q → wDef (FL [φ_law_isqrt]) C m_law_floor_v0 6 ds Q := by
  rintro _ Q ⟨d, hr, x, rfl, h0, hx, k⟩
  have b1 := QD.mul_bit (QD.mul_bit (QD.root_bit (d := d)) hx.hq) hx.hq
  have hpos : 1 ≤ d * x.q * x.q := by
    have := sq_pos h0
    have h2 := Rt.pos (d := d)
    have := Int.mul_pos (show 0 < d by omega) (show 0 < x.q * x.q by omega)
    grind
  refine ⟨rfl, mul_ok QD.root_bit hx.hq (by omega), mul_ok (QD.mul_bit QD.root_bit hx.hq) hx.hq (by omega), _, rfl, hpos, ?_, fun g h1 h2 h3 => ?_⟩
  · have : (d * x.q * x.q).natAbs < 2 ^ 86 := b1
    omega
  · have kk := k g h1 h2 h3
    unfold flG at kk
    have hs : fdivOk (x.p + g) x.s := ⟨by have := x.s_pos; omega, .inl (by have := log_le hx.hs; omega)⟩
    have hs2 : fdivOk (x.p + (-g - 1)) x.s := ⟨by have := x.s_pos; omega, .inl (by have := log_le hx.hs; omega)⟩
    refine ⟨fz_ne, ite_of (fun h => ?_) (fun h => ?_)⟩
    · have h := of_decide_eq_true h
      rw [if_pos h] at kk
      exact ⟨fz_ne, hs2, fz_ne, kk⟩
    · have h := of_decide_eq_false h
      rw [if_neg h] at kk
      exact ⟨hs, fz_ne, kk⟩
def φ_law_size : Spc := fun ds Q => ∃ (d : Int) (_ : Rt d) (x : QD d), ds = [.int d, x.L] ∧ x.Bd 4000 ∧ (x.sg ≠ -1 → Q x.L) ∧ (x.sg = -1 → Q (-x).L)
theorem M_law_size : MonoS φ_law_size := fun _ _ _ h ⟨a, r, b, e, p1, q, q2⟩ => ⟨a, r, b, e, p1, fun z => h _ (q z), fun z => h _ (q2 z)⟩
theorem c_law_size (C : Nat → PyData) : ∀ ds Q, φ_law_size ds Q → wDef (FL [φ_sign_of]) C m_law_size 2 ds Q := by
  rintro _ Q ⟨d, hr, x, rfl, hx, k1, k2⟩
  refine ⟨d, hr, x, rfl, hx, callW_fz rfl (ite_of (fun h => ?_) (fun h => ?_))⟩
  · have h := of_decide_eq_true h
    have : x.sg = -1 := by rcases QD.sg_cases x with h | h | h <;> omega
    have kk := k2 this
    rw [L_neg] at kk
    exact ⟨_, rfl, _, rfl, _, rfl, rfl, by simp, fz_ne, kk⟩
  · have h := of_decide_eq_false h
    exact ⟨fz_ne, k1 (by omega)⟩
def Fr {d : Int} (f : QD d) : Prop := f.q = 0 ∧ 0 ≤ f.p
theorem mk_fr {d : Int} {p s : Int} (hp : 0 ≤ p) (hs : 0 < s) : Fr (QD.mkQ p 0 s : QD d) := by
  obtain ⟨e1, e2, e3⟩ := QD.enc_mk (d := d) (p := p) (q := 0) (show s ≠ 0 by omega)
  have h3 := QD.g3_pos (p := p) (q := 0) (show s ≠ 0 by omega)
  have hg : QD.gs p 0 s = QD.g3 p 0 s := if_neg (by omega)
  constructor
  · rw [e2]
    show (0 : Int) / _ = 0
    simp
  · rw [e1]
    show 0 ≤ p / QD.gs p 0 s
    rw [hg]
    exact Int.ediv_nonneg hp (by omega)
def φ_law_share : Spc := fun ds Q => ∃ (d k m : Int), ds = [.int k, .int m] ∧ 0 ≤ m ∧ m ≤ 100 ∧ ∀ f : QD d, Fr f → f.Bd 7 → Q f.L
theorem M_law_share : MonoS φ_law_share := fun _ _ _ h ⟨d, a, b, e, p1, p2, q⟩ => ⟨d, a, b, e, p1, p2, fun x hx h1 => h _ (q x hx h1)⟩
theorem c_law_share (C : Nat → PyData) : ∀ ds Q, φ_law_share ds Q → wDef (FL [φ_length]) C m_law_share 2 ds Q := by
  rintro _ Q ⟨d, x, m, rfl, h0, h1, k⟩
  have r1 := fmod_rng x (show (0 : Int) < m + 1 by omega)
  have r2 := fmod_rng (x.fdiv 11) (show (0 : Int) < 4 by decide)
  have hs : (1 + (x.fdiv 11).fmod 4).natAbs < 2 ^ 3 := by omega
  exact ⟨by omega, fdiv_small (by decide) (by decide), by decide, d, _, _, _, rfl, ⟨by omega, QD.bit_mono hs (by decide)⟩, fz_ne, k _ (mk_fr (by omega) (by omega)) (.mk' (by omega) (by omega) (by omega) (QD.bit_mono hs (by omega)))⟩
def φ_law_within : Spc := fun ds Q => ∃ (d : Int) (xs : List (QD d)) (m : Int), ds = [.list (xs.map QD.L), .int m] ∧ ((∀ x, x ∈ xs → x.p.natAbs ≤ m ∧ x.q.natAbs ≤ m ∧ x.s ≤ m) → Q (.bool true)) ∧ Q (.bool false)
theorem M_law_within : MonoS φ_law_within := fun _ _ _ h ⟨d, a, b, e, p1, q⟩ => ⟨d, a, b, e, fun z => h _ (p1 z), h _ q⟩
theorem c_law_within (C : Nat → PyData) : ∀ ds Q, φ_law_within ds Q → wDef (FL []) C m_law_within 3 ds Q := by
  rintro _ Q ⟨d, xs, m, rfl, k1, k2⟩
  refine for_step ⟨fz_ne, ?_⟩
  refine for_rule (fl_mono FM0) (fun i en => (∀ x, x ∈ xs.take i → x.p.natAbs ≤ m ∧ x.q.natAbs ≤ m ∧ x.s ≤ m) ∧ ∃ v, en = [some ⟨false, .list (xs.map QD.L)⟩, some ⟨false, .int m⟩, v]) ⟨by simp, _, rfl⟩ (fun i z en hz hI => ?_) (fun en hI => ?_)
  · obtain ⟨hI, v, rfl⟩ := hI
    rw [List.getElem?_map] at hz
    cases e : xs[i]? with
    | none => rw [e] at hz; cases hz
    | some y =>
      rw [e] at hz
      cases hz
      refine ⟨_, rfl, _, rfl, _, rfl, ite_of (fun h => ?_) (fun h => ?_)⟩
      · exact ⟨fz_ne, k2⟩
      · have h := of_decide_eq_false h
        refine ⟨fun x hx => ?_, _, rfl⟩
        rw [List.take_add_one, e] at hx
        rcases List.mem_append.mp hx with c | c
        · exact hI x c
        · simp at c
          subst c
          unfold max2 at h
          have e1 := absI_nat x.p
          have e2 := absI_nat x.q
          have e3 := absI_nn x.p
          have e4 := absI_nn x.q
          have h : ¬ m < (if x.s > (if absI x.q > absI x.p then absI x.q else absI x.p) then x.s else (if absI x.q > absI x.p then absI x.q else absI x.p)) := h
          split at h <;> split at h <;> omega
  · obtain ⟨hI, v, rfl⟩ := hI
    rw [List.take_of_length_le (by simp)] at hI
    exact ⟨fz_ne, k1 hI⟩
end Mi

set_option Elab.async false
set_option linter.all false
/-! The order of lengths. -/
namespace Mi
open PySem
theorem sgr_neg {d : Int} (x : QD d) : (-x).sg = -x.sg := by
  obtain ⟨e1, e2, e3⟩ := QD.enc_neg x
  unfold QD.sg
  rw [e1, e2]
  have s : ∀ i, sgn (-i) = -sgn i := fun i => by
    rcases sgn_cases i with ⟨h, e⟩ | ⟨h, e⟩ | ⟨h, e⟩ <;> rw [e]
    · exact sgn_neg (by omega)
    · rw [h]; rfl
    · exact sgn_pos (by omega)
  rw [show -x.p * -x.q = x.p * x.q by grind, show d * -x.q * -x.q = d * x.q * x.q by grind, show -x.p * -x.p = x.p * x.p by grind, show -x.p + -x.q = -(x.p + x.q) by omega, s, s, s]
  split
  · rfl
  · split <;> rfl
namespace QD
variable {d : Int}
/-- above 0, by the norm -/
def Po (x : QD d) : Prop := (0 < x.nm ∧ 0 < x.a) ∨ (x.nm < 0 ∧ 0 < x.b)
theorem pos_scale {u v s : Rat} (hs : 0 < s) (e : u = v * s) : 0 < u ↔ 0 < v := by
  constructor
  · intro h
    apply Rat.not_le.mp
    intro c
    have := Rat.mul_nonneg (show 0 ≤ -v by grind) (Rat.le_of_lt hs)
    grind
  · intro h
    rw [e]
    exact Rat.mul_pos h hs
theorem icast_pos {z : Int} : (0 : Rat) < (z : Rat) ↔ 0 < z := Rat.intCast_pos
theorem po_int (x : QD d) : x.Po ↔ (0 < x.nn ∧ 0 < x.p) ∨ (x.nn < 0 ∧ 0 < x.q) := by
  have hs : (0 : Rat) < (x.s : Rat) := icast_pos.mpr x.s_pos
  have h1 := pos_scale hs x.is.ha
  have h2 := pos_scale hs x.is.hb
  have ss := Rat.mul_pos hs hs
  have h3 : (0 : Rat) < (x.nn : Rat) ↔ 0 < x.nm := pos_scale ss (by rw [x.nn_nm]; grind)
  have h4 : (0 : Rat) < ((-x.nn : Int) : Rat) ↔ 0 < -x.nm := pos_scale ss (by rw [Rat.intCast_neg, x.nn_nm]; grind)
  rw [icast_pos] at h1 h2 h3 h4
  have h5 : x.nn < 0 ↔ x.nm < 0 := by
    constructor
    · intro h
      have := h4.mp (by omega)
      grind
    · intro h
      have := h4.mpr (by grind)
      omega
  unfold Po
  rw [h1, h2, h3, h5]
theorem sq_nn (z : Int) : 0 ≤ z * z := by
  rcases Int.le_total 0 z with c | c
  · exact Int.mul_nonneg c c
  · have := Int.mul_nonneg (show 0 ≤ -z by omega) (show 0 ≤ -z by omega)
    grind
theorem sg_po [Rt d] (x : QD d) : x.sg = 1 ↔ x.Po := by
  rw [po_int]
  have hd := (Rt.pos (d := d)).1
  have hirr : x.nn = 0 → x.p = 0 ∧ x.q = 0 := fun h => irr (d := d) (by unfold nn at h; grind)
  unfold sg
  have en : x.nn = x.p * x.p - d * x.q * x.q := rfl
  generalize x.nn = N at *
  generalize x.p = p at *
  generalize x.q = q at *
  have m1 := sq_nn p
  have m2 : 0 ≤ d * q * q := by have := Int.mul_nonneg (Int.le_of_lt hd) (sq_nn q); grind
  have z1 : q = 0 → d * q * q = 0 := fun h => by rw [h]; simp
  have z2 : p = 0 → p * p = 0 := fun h => by rw [h]; simp
  split
  · rename_i hpq
    -- like signs
    have sgn1 : sgn (p + q) = 1 ↔ 0 < p + q := by rcases sgn_cases (p + q) with ⟨a, b⟩ | ⟨a, b⟩ | ⟨a, b⟩ <;> omega
    rw [sgn1]
    have like : (0 ≤ p ∧ 0 ≤ q) ∨ (p ≤ 0 ∧ q ≤ 0) := by
      rcases Int.lt_trichotomy p 0 with h | h | h
      · rcases Int.lt_trichotomy q 0 with h2 | h2 | h2
        · omega
        · omega
        · have := Int.mul_neg_of_neg_of_pos h h2; omega
      · omega
      · rcases Int.lt_trichotomy q 0 with h2 | h2 | h2
        · have := Int.mul_neg_of_pos_of_neg h h2; omega
        · omega
        · omega
    constructor
    · intro h
      rcases Int.lt_trichotomy N 0 with c | c | c
      · right
        refine ⟨c, ?_⟩
        apply Int.not_le.mp
        intro hq
        have : q = 0 := by omega
        have := z1 this
        omega
      · have := hirr c; omega
      · left
        refine ⟨c, ?_⟩
        apply Int.not_le.mp
        intro hq
        have : p = 0 := by omega
        have := z2 this
        omega
    · rintro (⟨h1, h2⟩ | ⟨h1, h2⟩) <;> omega
  · rename_i hpq
    have sp : ∀ i, sgn i = 1 ↔ 0 < i := fun i => by rcases sgn_cases i with ⟨a, b⟩ | ⟨a, b⟩ | ⟨a, b⟩ <;> omega
    split
    · rw [sp]
      constructor
      · intro h; left; omega
      · rintro (⟨h1, h2⟩ | ⟨h1, h2⟩) <;> omega
    · rw [sp]
      have hN : N ≠ 0 := fun c => by have := hirr c; rw [this.1] at hpq; simp at hpq
      constructor
      · intro h; right; omega
      · rintro (⟨h1, h2⟩ | ⟨h1, h2⟩) <;> omega
theorem sum_pos {u v : Rat} (h : 0 < u) (h2 : v * v < u * u) : 0 < u + v := by
  apply Rat.not_le.mp
  intro c
  have := Rat.mul_nonneg (show 0 ≤ -v - u by grind) (show 0 ≤ -v + u by grind)
  grind
theorem prod_lt {A B C D : Rat} (h1 : B < A) (h2 : D < C) (h3 : 0 ≤ B) (h4 : 0 ≤ D) : B * D < A * C := by
  have h5 : 0 < C := by grind
  have := Rat.mul_pos (show 0 < A - B by grind) h5
  have := Rat.mul_nonneg h3 (show 0 ≤ C - D by grind)
  grind
theorem rsq (x : Rat) : 0 ≤ x * x := by
  rcases Rat.le_total (a := 0) (b := x) with c | c
  · exact Rat.mul_nonneg c c
  · have := Rat.mul_nonneg (show 0 ≤ -x by grind) (show 0 ≤ -x by grind)
    grind
theorem nm_mul (x y : QD d) : (x * y).nm = x.nm * y.nm := by
  unfold nm
  simp only [mul_a, mul_b]
  grind
theorem po_mul [Rt d] {x y : QD d} (hx : x.Po) (hy : y.Po) : (x * y).Po := by
  have hd : (0 : Rat) < (d : Rat) := icast_pos.mpr (Rt.pos (d := d)).1
  have en := nm_mul x y
  have nx : x.nm = x.a * x.a - d * x.b * x.b := rfl
  have ny : y.nm = y.a * y.a - d * y.b * y.b := rfl
  unfold Po at hx hy ⊢
  rw [en, mul_a, mul_b]
  have s1 := rsq x.a
  have s2 := rsq y.a
  have t1 := Rat.mul_nonneg (Rat.le_of_lt hd) (rsq x.b)
  have t2 := Rat.mul_nonneg (Rat.le_of_lt hd) (rsq y.b)
  generalize (d : Rat) = e at *
  generalize x.nm = N at *
  generalize y.nm = M at *
  generalize x.a = a at *
  generalize x.b = b at *
  generalize y.a = c at *
  generalize y.b = f at *
  rcases hx with ⟨h1, h2⟩ | ⟨h1, h2⟩ <;> rcases hy with ⟨h3, h4⟩ | ⟨h3, h4⟩
  · left
    refine ⟨Rat.mul_pos h1 h3, ?_⟩
    have k := prod_lt (A := a * a) (B := e * (b * b)) (C := c * c) (D := e * (f * f)) (by grind) (by grind) t1 t2
    have := sum_pos (u := a * c) (v := e * b * f) (Rat.mul_pos h2 h4) (by grind)
    grind
  · right
    refine ⟨?_, ?_⟩
    · have := Rat.mul_pos h1 (show 0 < -M by grind)
      grind
    · have k := prod_lt (A := a * a) (B := e * (b * b)) (C := e * (f * f)) (D := c * c) (by grind) (by grind) t1 s2
      have k2 : (b * c) * (b * c) < (a * f) * (a * f) := by
        have : e * ((b * c) * (b * c)) < e * ((a * f) * (a * f)) := by grind
        apply Rat.not_le.mp
        intro c'
        have := Rat.mul_nonneg (Rat.le_of_lt hd) (show 0 ≤ (b * c) * (b * c) - (a * f) * (a * f) by grind)
        grind
      have := sum_pos (Rat.mul_pos h2 h4) k2
      grind
  · right
    refine ⟨?_, ?_⟩
    · have := Rat.mul_pos (show 0 < -N by grind) h3
      grind
    · have k := prod_lt (A := e * (b * b)) (B := a * a) (C := c * c) (D := e * (f * f)) (by grind) (by grind) s1 t2
      have k2 : (a * f) * (a * f) < (b * c) * (b * c) := by
        have : e * ((a * f) * (a * f)) < e * ((b * c) * (b * c)) := by grind
        apply Rat.not_le.mp
        intro c'
        have := Rat.mul_nonneg (Rat.le_of_lt hd) (show 0 ≤ (a * f) * (a * f) - (b * c) * (b * c) by grind)
        grind
      have := sum_pos (Rat.mul_pos h2 h4) k2
      grind
  · left
    refine ⟨?_, ?_⟩
    · have := Rat.mul_pos (show 0 < -N by grind) (show 0 < -M by grind)
      grind
    · have k := prod_lt (A := e * (b * b)) (B := a * a) (C := e * (f * f)) (D := c * c) (by grind) (by grind) s1 s2
      have p1 := Rat.mul_pos hd (Rat.mul_pos h2 h4)
      have := sum_pos (u := e * (b * f)) (v := a * c) p1 (by grind)
      grind
/-- the sign of a product -/
theorem sg_mul [Rt d] (x y : QD d) : (x * y).sg = x.sg * y.sg := by
  have pp : ∀ x y : QD d, x.sg = 1 → y.sg = 1 → (x * y).sg = 1 := fun x y h1 h2 => (sg_po _).mpr (po_mul ((sg_po _).mp h1) ((sg_po _).mp h2))
  rcases sg_cases x with h1 | h1 | h1 <;> rcases sg_cases y with h2 | h2 | h2
  · rw [pp x y h1 h2, h1, h2]; rfl
  · rw [sg_zero_iff] at h2
    subst h2
    rw [show x * 0 = 0 by grind, sg_zero_iff.mpr rfl]; simp
  · have := pp x (-y) h1 (by rw [sgr_neg, h2]; rfl)
    rw [show x * -y = -(x * y) by grind, sgr_neg] at this
    rw [h1, h2]; omega
  · rw [sg_zero_iff] at h1
    subst h1
    rw [show 0 * y = 0 by grind, sg_zero_iff.mpr rfl]; simp
  · rw [sg_zero_iff] at h1
    subst h1
    rw [show 0 * y = 0 by grind, sg_zero_iff.mpr rfl]; simp
  · rw [sg_zero_iff] at h1
    subst h1
    rw [show 0 * y = 0 by grind, sg_zero_iff.mpr rfl]; simp
  · have := pp (-x) y (by rw [sgr_neg, h1]; rfl) h2
    rw [show -x * y = -(x * y) by grind, sgr_neg] at this
    rw [h1, h2]; omega
  · rw [sg_zero_iff] at h2
    subst h2
    rw [show x * 0 = 0 by grind, sg_zero_iff.mpr rfl]; simp
  · have := pp (-x) (-y) (by rw [sgr_neg, h1]; rfl) (by rw [sgr_neg, h2]; rfl)
    rw [show -x * -y = x * y by grind] at this
    rw [h1, h2]; omega
theorem sg_sq [Rt d] {y : QD d} (h : y ≠ 0) : (y * y).sg = 1 := by
  have h0 : y.sg ≠ 0 := fun e => h (sg_zero_iff.mp e)
  rw [sg_mul]
  rcases sg_cases y with h | h | h <;> rw [h] at h0 ⊢ <;> first | rfl | exact absurd rfl h0
theorem sg_mul_sq [Rt d] (x : QD d) {y : QD d} (h : y ≠ 0) : (x * (y * y)).sg = x.sg := by rw [sg_mul, sg_sq h]; omega
end QD
end Mi

set_option Elab.async false
set_option linter.all false
set_option maxRecDepth 100000
set_option maxHeartbeats 2000000
/-! Measures that suit. -/
namespace Mi
open PySem
/-- is_never_below(root, first, middle, last): root 0, first 1, middle 2, last 3, four 4 -/
def cs_is_never_below : Cs := { N := ["root", "first", "middle", "last", "four"], fn := [("times", 3), ("whole", 1), ("compare", 3), ("sign_of", 2)], cn := [], ow := [] }
def m_is_never_below : Ss := (.cons (.ifs (.or (.cmp .eq (.call false 3 (.cons (.var 0) (.cons (.var 1) .nil))) (.neg (.con (.int 1)))) (.cmp .eq (.call false 3 (.cons (.var 0) (.cons (.var 3) .nil))) (.neg (.con (.int 1))))) (.cons (.ret (.con (.bool false)))
 .nil) .nil)
 (.cons (.set false false 4 (.call false 0 (.cons (.var 0) (.cons (.call false 1 (.cons (.con (.int 4)) .nil)) (.cons (.call false 0 (.cons (.var 0) (.cons (.var 1) (.cons (.var 3) .nil)))) .nil)))))
 (.cons (.ret (.cmp .ne (.call false 2 (.cons (.var 0) (.cons (.call false 0 (.cons (.var 0) (.cons (.var 2) (.cons (.var 2) .nil)))) (.cons (.var 4) .nil)))) (.con (.int 1))))
 .nil)))

/-- form_of(root, measure, r): root 0, measure 1, r 2, a 3, b 4, c 5, d 6 -/
def cs_form_of : Cs := { N := ["root", "measure", "r", "a", "b", "c", "d"], fn := [("times", 3), ("plus", 2), ("twin", 1)], cn := [], ow := [] }
def m_form_of : Ss := (.cons (.unp false [3, 4, 5, 6] (.var 1))
 (.cons (.ret (.tup (.cons (.call false 0 (.cons (.var 0) (.cons (.var 3) (.cons (.var 2) .nil)))) (.cons (.call false 1 (.cons (.call false 0 (.cons (.var 0) (.cons (.var 4) (.cons (.var 2) .nil)))) (.cons (.call false 0 (.cons (.var 0) (.cons (.var 5) (.cons (.call false 2 (.cons (.var 2) .nil)) .nil)))) .nil))) (.cons (.call false 0 (.cons (.var 0) (.cons (.var 6) (.cons (.call false 2 (.cons (.var 2) .nil)) .nil)))) .nil)))))
 .nil))

/-- turned_form_of(root, measure, r): root 0, measure 1, r 2, a 3, b 4, c 5, d 6 -/
def cs_turned_form_of : Cs := { N := ["root", "measure", "r", "a", "b", "c", "d"], fn := [("times", 3), ("plus", 2), ("twin", 1)], cn := [], ow := [] }
def m_turned_form_of : Ss := (.cons (.unp false [3, 4, 5, 6] (.var 1))
 (.cons (.ret (.tup (.cons (.call false 0 (.cons (.var 0) (.cons (.var 3) (.cons (.var 2) .nil)))) (.cons (.call false 1 (.cons (.call false 0 (.cons (.var 0) (.cons (.var 4) (.cons (.call false 2 (.cons (.var 2) .nil)) .nil)))) (.cons (.call false 0 (.cons (.var 0) (.cons (.var 5) (.cons (.var 2) .nil)))) .nil))) (.cons (.call false 0 (.cons (.var 0) (.cons (.var 6) (.cons (.call false 2 (.cons (.var 2) .nil)) .nil)))) .nil)))))
 .nil))

/-- suits(root, measure, r): root 0, measure 1, r 2, first 3, middle 4, last 5 -/
def cs_suits : Cs := { N := ["root", "measure", "r", "first", "middle", "last"], fn := [("form_of", 3), ("turned_form_of", 3), ("is_never_below", 4)], cn := [], ow := [] }
def m_suits : Ss := (.cons (.unp false [3, 4, 5] (.call false 0 (.cons (.var 0) (.cons (.var 1) (.cons (.var 2) .nil)))))
 (.cons (.ifs (.not (.call false 2 (.cons (.var 0) (.cons (.var 3) (.cons (.var 4) (.cons (.var 5) .nil)))))) (.cons (.ret (.con (.bool false)))
 .nil) .nil)
 (.cons (.unp false [3, 4, 5] (.call false 1 (.cons (.var 0) (.cons (.var 1) (.cons (.var 2) .nil)))))
 (.cons (.ret (.call false 2 (.cons (.var 0) (.cons (.var 3) (.cons (.var 4) (.cons (.var 5) .nil))))))
 .nil))))

/-- _law_twin(number): number 0 -/
def cs_law_twin : Cs := { N := ["number"], fn := [], cn := [], ow := [] }
def m_law_twin : Ss := (.cons (.ret (.tup (.cons (.idx (.var 0) (.con (.int 0))) (.cons (.neg (.idx (.var 0) (.con (.int 1)))) (.cons (.idx (.var 0) (.con (.int 2))) .nil)))))
 .nil)

/-- _law_less(root, first, second): root 0, first 1, second 2 -/
def cs_law_less_v0 : Cs := { N := ["root", "first", "second"], fn := [("_law_sign", 2), ("_law_minus", 2)], cn := [], ow := [] }
def m_law_less_v0 : Ss := (.cons (.ret (.cmp .eq (.call false 0 (.cons (.var 0) (.cons (.call false 1 (.cons (.var 2) (.cons (.var 1) .nil))) .nil))) (.con (.int 1))))
 .nil)

/-- _law_forms(root, measure, r): root 0, measure 1, r 2, a 3, b 4, c 5, d 6, twin_v 7, first 8, last 9, middles 10, middle 11 -/
def cs_law_forms : Cs := { N := ["root", "measure", "r", "a", "b", "c", "d", "twin_v", "first", "last", "middles", "middle"], fn := [("_law_twin", 1), ("_law_times", 3), ("_law_add", 2)], cn := [], ow := [] }
def m_law_forms : Ss := (.cons (.unp false [3, 4, 5, 6] (.var 1))
 (.cons (.set false false 7 (.call false 0 (.cons (.var 2) .nil)))
 (.cons (.unp false [8, 9] (.tup (.cons (.call false 1 (.cons (.var 0) (.cons (.var 3) (.cons (.var 2) .nil)))) (.cons (.call false 1 (.cons (.var 0) (.cons (.var 6) (.cons (.var 7) .nil)))) .nil))))
 (.cons (.set false false 10 (.lst (.cons (.call false 2 (.cons (.call false 1 (.cons (.var 0) (.cons (.var 4) (.cons (.var 2) .nil)))) (.cons (.call false 1 (.cons (.var 0) (.cons (.var 5) (.cons (.var 7) .nil)))) .nil))) (.cons (.call false 2 (.cons (.call false 1 (.cons (.var 0) (.cons (.var 4) (.cons (.var 7) .nil)))) (.cons (.call false 1 (.cons (.var 0) (.cons (.var 5) (.cons (.var 2) .nil)))) .nil))) .nil))))
 (.cons (.ret (.comp [11] (.one 11) (.seq (.var 10)) (.con (.bool true)) (.tup (.cons (.var 8) (.cons (.var 11) (.cons (.var 9) .nil))))))
 .nil)))))

/-- _law_suits(root, measure, r): root 0, measure 1, r 2, first 3, middle 4, last 5, four 6 -/
def cs_law_suits : Cs := { N := ["root", "measure", "r", "first", "middle", "last", "four"], fn := [("_law_forms", 3), ("_law_times", 3), ("_law_less", 3), ("_law_sign", 2)], cn := [], ow := [] }
def m_law_suits : Ss := (.cons (.for_ false (.many [3, 4, 5]) (.seq (.call false 0 (.cons (.var 0) (.cons (.var 1) (.cons (.var 2) .nil))))) (.cons (.ifs (.or (.cmp .lt (.call false 3 (.cons (.var 0) (.cons (.var 3) .nil))) (.con (.int 0))) (.cmp .lt (.call false 3 (.cons (.var 0) (.cons (.var 5) .nil))) (.con (.int 0)))) (.cons (.ret (.con (.bool false)))
 .nil) .nil)
 (.cons (.set false false 6 (.call false 1 (.cons (.var 0) (.cons (.tup (.cons (.con (.int 4)) (.cons (.con (.int 0)) (.cons (.con (.int 1)) .nil)))) (.cons (.call false 1 (.cons (.var 0) (.cons (.var 3) (.cons (.var 5) .nil)))) .nil)))))
 (.cons (.ifs (.call false 2 (.cons (.var 0) (.cons (.var 6) (.cons (.call false 1 (.cons (.var 0) (.cons (.var 4) (.cons (.var 4) .nil)))) .nil)))) (.cons (.ret (.con (.bool false)))
 .nil) .nil)
 .nil))))
 (.cons (.ret (.con (.bool true)))
 .nil))

/-- _law_drawn_measures(root, r, digits): root 0, r 1, digits 2, zero 3, one 4, drawn 5, k 6, sign 7, share 8, found 9, size 10, cross 11, far 12, b 13, c 14 -/
def cs_law_drawn_measures : Cs := { N := ["root", "r", "digits", "zero", "one", "drawn", "k", "sign", "share", "found", "size", "cross", "far", "b", "c"], fn := [("_law_above", 2), ("_law_size", 2), ("_law_minus", 2), ("_law_sign", 2), ("_law_times", 3), ("_law_by", 3), ("_law_number", 1), ("_law_twin", 1)], cn := [], ow := [9] }
def m_law_drawn_measures : Ss := (.cons (.unp false [3, 4] (.tup (.cons (.tup (.cons (.con (.int 0)) (.cons (.con (.int 0)) (.cons (.con (.int 1)) .nil)))) (.cons (.tup (.cons (.con (.int 1)) (.cons (.con (.int 0)) (.cons (.con (.int 1)) .nil)))) .nil))))
 (.cons (.set false false 5 (.blt .tuple (.cons (.comp [6] (.one 6) (.rng (.con (.int 0)) (.con (.int 4))) (.con (.bool true)) (.call false 6 (.cons (.slc (.var 2) (.bin .mul (.con (.int 3)) (.var 6)) (.bin .add (.bin .mul (.con (.int 3)) (.var 6)) (.con (.int 3)))) .nil))) .nil)))
 (.cons (.set false false 7 (.tup (.cons (.call false 3 (.cons (.var 0) (.cons (.call false 7 (.cons (.var 1) .nil)) .nil))) (.cons (.con (.int 0)) (.cons (.con (.int 1)) .nil)))))
 (.cons (.set false false 8 (.call false 0 (.cons (.var 0) (.cons (.slc (.var 2) (.con (.int 12)) (.con (.int 15))) .nil))))
 (.cons (.set false true 9 (.lst (.cons (.var 5) (.cons (.tup (.cons (.var 8) (.cons (.var 3) (.cons (.var 3) (.cons (.call false 4 (.cons (.var 0) (.cons (.var 7) (.cons (.var 4) .nil)))) .nil))))) (.cons (.tup (.cons (.var 4) (.cons (.var 3) (.cons (.var 3) (.cons (.tup (.cons (.neg (.idx (.var 7) (.con (.int 0)))) (.cons (.con (.int 0)) (.cons (.con (.int 1)) .nil)))) .nil))))) (.cons (.tup (.cons (.var 3) (.cons (.var 4) (.cons (.tup (.cons (.neg (.con (.int 1))) (.cons (.con (.int 0)) (.cons (.con (.int 1)) .nil)))) (.cons (.var 3) .nil))))) (.cons (.tup (.cons (.var 3) (.cons (.var 4) (.cons (.var 4) (.cons (.var 3) .nil))))) .nil)))))))
 (.cons (.set false false 10 (.call false 1 (.cons (.var 0) (.cons (.call false 4 (.cons (.var 0) (.cons (.var 1) (.cons (.call false 7 (.cons (.var 1) .nil)) .nil)))) .nil))))
 (.cons (.set false false 11 (.call false 2 (.cons (.call false 5 (.cons (.var 0) (.cons (.var 1) (.cons (.call false 7 (.cons (.var 1) .nil)) .nil)))) (.cons (.call false 5 (.cons (.var 0) (.cons (.call false 7 (.cons (.var 1) .nil)) (.cons (.var 1) .nil)))) .nil))))
 (.cons (.ifs (.cmp .ne (.var 11) (.var 3)) (.cons (.for_ false (.one 12) (.seq (.lst (.cons (.tup (.cons (.con (.int 2)) (.cons (.con (.int 0)) (.cons (.con (.int 1)) .nil)))) (.cons (.tup (.cons (.bin .sub (.bin .mod (.idx (.var 2) (.con (.int 15))) (.con (.int 9))) (.con (.int 4))) (.cons (.con (.int 0)) (.cons (.con (.int 2)) .nil)))) (.cons (.tup (.cons (.con (.int 3)) (.cons (.con (.int 0)) (.cons (.con (.int 1)) .nil)))) .nil))))) (.cons (.set false false 13 (.call false 5 (.cons (.var 0) (.cons (.call false 4 (.cons (.var 0) (.cons (.var 12) (.cons (.call false 5 (.cons (.var 0) (.cons (.var 4) (.cons (.var 1) .nil)))) .nil)))) (.cons (.var 11) .nil)))))
 (.cons (.set false false 14 (.call false 5 (.cons (.var 0) (.cons (.call false 4 (.cons (.var 0) (.cons (.tup (.cons (.neg (.idx (.var 12) (.con (.int 0)))) (.cons (.con (.int 0)) (.cons (.idx (.var 12) (.con (.int 2))) .nil)))) (.cons (.call false 5 (.cons (.var 0) (.cons (.var 4) (.cons (.call false 7 (.cons (.var 1) .nil)) .nil)))) .nil)))) (.cons (.var 11) .nil)))))
 (.cons (.app 9 (.tup (.cons (.call false 5 (.cons (.var 0) (.cons (.var 4) (.cons (.var 10) .nil)))) (.cons (.var 13) (.cons (.var 14) (.cons (.var 7) .nil))))))
 .nil))))
 .nil) .nil)
 (.cons (.ret (.var 9))
 .nil)))))))))

/-- _law_told(root, measure, r): root 0, measure 1, r 2, due 3, told 4 -/
def cs_law_told_v0 : Cs := { N := ["root", "measure", "r", "due", "told"], fn := [("_law_suits", 3), ("suits", 3), ("_law_by", 3)], cn := [], ow := [] }
def m_law_told_v0 : Ss := (.cons (.set false false 3 (.call false 0 (.cons (.var 0) (.cons (.var 1) (.cons (.var 2) .nil)))))
 (.cons (.set false false 4 (.lst (.cons (.call false 1 (.cons (.var 0) (.cons (.var 1) (.cons (.var 2) .nil)))) (.cons (.call false 1 (.cons (.var 0) (.cons (.var 1) (.cons (.call false 2 (.cons (.var 0) (.cons (.tup (.cons (.con (.int 1)) (.cons (.con (.int 0)) (.cons (.con (.int 1)) .nil)))) (.cons (.var 2) .nil)))) .nil)))) (.cons (.call false 1 (.cons (.var 0) (.cons (.tup (.cons (.idx (.var 1) (.con (.int 0))) (.cons (.idx (.var 1) (.con (.int 2))) (.cons (.idx (.var 1) (.con (.int 1))) (.cons (.idx (.var 1) (.con (.int 3))) .nil))))) (.cons (.var 2) .nil)))) .nil)))))
 (.cons (.ret (.cmp .eq (.blt .repr (.cons (.var 4) .nil)) (.blt .repr (.cons (.bin .mul (.lst (.cons (.var 3) .nil)) (.con (.int 3))) .nil))))
 .nil)))

def Ss.dr : Nat → Ss → Ss
  | n + 1, .cons _ ss => ss.dr n
  | _, ss => ss
def Ss.fb : Ss → Ss
  | .cons (.for_ _ _ _ b) _ => b
  | .cons (.whl _ b) _ => b
  | ss => ss
theorem g3_s1 (p q : Int) : QD.g3 p q 1 = 1 := by unfold QD.g3; simp
theorem L_lit {d : Int} {p q s : Int} (h : QD.g3 p q s = 1) (hs : 0 < s) : PyData.tuple [.int p, .int q, .int s] = (QD.mkQ p q s : QD d).L ∧ (QD.mkQ p q s : QD d).p = p ∧ (QD.mkQ p q s : QD d).q = q ∧ (QD.mkQ p q s : QD d).s = s := by
  have hsr := QD.cast_ne (show s ≠ 0 by omega)
  obtain ⟨e1, e2, e3⟩ := QD.of_is (x := (QD.mkQ p q s : QD d)) (p := p) (q := q) (s := s) ⟨hs, h, by show _ = (p : Rat) / s * s; grind, by show _ = (q : Rat) / s * s; grind⟩
  exact ⟨by unfold QD.L; rw [e1, e2, e3], e1, e2, e3⟩
theorem lit_bd {d : Int} {p q : Int} {n : Nat} (h1 : p.natAbs < 2 ^ n) (h2 : q.natAbs < 2 ^ n) (h3 : (1 : Int).natAbs < 2 ^ n) : (QD.mkQ p q 1 : QD d).Bd n := by
  obtain ⟨_, e1, e2, e3⟩ := L_lit (d := d) (g3_s1 p q) (by decide)
  exact ⟨by rw [e1]; exact h1, by rw [e2]; exact h2, by rw [e3]; exact h3⟩
theorem lit_L {d : Int} (p q : Int) : PyData.tuple [.int p, .int q, .int 1] = (QD.mkQ p q 1 : QD d).L := (L_lit (d := d) (g3_s1 p q) (by decide)).1
def NB {d : Int} (f m l : QD d) : Bool := !(f.sg == -1) && (!(l.sg == -1) && !((m * m - QD.mkQ 4 0 1 * (f * l)).sg == 1))
def φ_is_never_below : Spc := fun ds Q => ∃ (d : Int) (_ : Rt d) (f m l : QD d), ds = [.int d, f.L, m.L, l.L] ∧ f.Bd 600 ∧ m.Bd 600 ∧ l.Bd 600 ∧ Q (.bool (NB f m l))
theorem M_is_never_below : MonoS φ_is_never_below := fun _ _ _ h ⟨d, hr, a, b, c, e, p1, p2, p3, q⟩ => ⟨d, hr, a, b, c, e, p1, p2, p3, h _ q⟩
theorem four_bd {d : Int} : (QD.mkQ 4 0 1 : QD d).Bd 3 := lit_bd (by decide) (by decide) (by decide)
theorem c_is_never_below (C : Nat → PyData) : ∀ ds Q, φ_is_never_below ds Q → wDef (FL [φ_times, φ_whole, φ_compare, φ_sign_of]) C m_is_never_below 5 ds Q := by
  rintro _ Q ⟨d, hr, f, m, l, rfl, hf, hm, hl, k⟩
  unfold NB at k
  refine ⟨d, hr, f, rfl, hf.mono (by omega), rfl, rfl, ite_of (fun h => ?_) (fun h => ?_)⟩
  · rw [show (f.sg == -1) = true from h] at k
    exact ⟨fz_ne, k⟩
  · rw [show (f.sg == -1) = false from h] at k
    refine ⟨d, hr, l, rfl, hl.mono (by omega), rfl, rfl, ite_of (fun h => ?_) (fun h => ?_)⟩
    · rw [show (l.sg == -1) = true from h] at k
      exact ⟨fz_ne, k⟩
    · rw [show (l.sg == -1) = false from h] at k
      have hfl := hf.mul hl
      exact ⟨4, rfl, d, hr, f, l, rfl, hf.mono (by omega), hl.mono (by omega), d, hr, _, _, congrArg (fun z => [PyData.int d, z, (f * l).L]) (lit_L 4 0), four_bd.mono (by omega), hfl.mono (by omega), fz_ne, d, hr, m, m, rfl, hm.mono (by omega), hm.mono (by omega), d, hr, _, _, rfl, (hm.mul hm).mono (by omega), (four_bd.mul hfl).mono (by omega), rfl, rfl, fz_ne, k⟩
abbrev mD {d : Int} (a b c e : QD d) : PyData := .tuple [a.L, b.L, c.L, e.L]
structure MB {d : Int} (a b c e : QD d) : Prop where
  ha : a.Bd 240
  hb : b.Bd 240
  hc : c.Bd 240
  he : e.Bd 240
def φ_form_of : Spc := fun ds Q => ∃ (d : Int) (_ : Rt d) (a b c e r : QD d), ds = [.int d, mD a b c e, r.L] ∧ MB a b c e ∧ r.Bd 50 ∧ Q (.tuple [(a * r).L, (b * r + c * r.tw).L, (e * r.tw).L])
theorem M_form_of : MonoS φ_form_of := fun _ _ _ h ⟨d, hr, a, b, c, e, r, eq, p1, p2, q⟩ => ⟨d, hr, a, b, c, e, r, eq, p1, p2, h _ q⟩
theorem c_form_of (C : Nat → PyData) : ∀ ds Q, φ_form_of ds Q → wDef (FL [φ_times, φ_plus, φ_twin]) C m_form_of 7 ds Q := by
  rintro _ Q ⟨d, hr, a, b, c, e, r, rfl, m, h, k⟩
  have o : ∀ {x : QD d}, x.Bd 240 → x.Bd 4000 := fun h => h.mono (by omega)
  exact ⟨rfl, d, hr, a, r, rfl, o m.ha, h.mono (by omega), d, hr, b, r, rfl, o m.hb, h.mono (by omega), d, r, rfl, d, hr, c, _, rfl, o m.hc, h.tw.mono (by omega), d, _, _, rfl, (m.hb.mul h).mono (by omega), (m.hc.mul h.tw).mono (by omega), d, r, rfl, d, hr, e, _, rfl, o m.he, h.tw.mono (by omega), rfl, by simp, fz_ne, k⟩
def φ_turned_form_of : Spc := fun ds Q => ∃ (d : Int) (_ : Rt d) (a b c e r : QD d), ds = [.int d, mD a b c e, r.L] ∧ MB a b c e ∧ r.Bd 50 ∧ Q (.tuple [(a * r).L, (b * r.tw + c * r).L, (e * r.tw).L])
theorem M_turned_form_of : MonoS φ_turned_form_of := fun _ _ _ h ⟨d, hr, a, b, c, e, r, eq, p1, p2, q⟩ => ⟨d, hr, a, b, c, e, r, eq, p1, p2, h _ q⟩
theorem c_turned_form_of (C : Nat → PyData) : ∀ ds Q, φ_turned_form_of ds Q → wDef (FL [φ_times, φ_plus, φ_twin]) C m_turned_form_of 7 ds Q := by
  rintro _ Q ⟨d, hr, a, b, c, e, r, rfl, m, h, k⟩
  have o : ∀ {x : QD d}, x.Bd 240 → x.Bd 4000 := fun h => h.mono (by omega)
  exact ⟨rfl, d, hr, a, r, rfl, o m.ha, h.mono (by omega), d, r, rfl, d, hr, b, _, rfl, o m.hb, h.tw.mono (by omega), d, hr, c, r, rfl, o m.hc, h.mono (by omega), d, _, _, rfl, (m.hb.mul h.tw).mono (by omega), (m.hc.mul h).mono (by omega), d, r, rfl, d, hr, e, _, rfl, o m.he, h.tw.mono (by omega), rfl, by simp, fz_ne, k⟩
def SU {d : Int} (a b c e r : QD d) : Bool := NB (a * r) (b * r + c * r.tw) (e * r.tw) && NB (a * r) (b * r.tw + c * r) (e * r.tw)
structure FB {d : Int} (a b c e r : QD d) : Prop where
  f : (a * r).Bd 600
  l : (e * r.tw).Bd 600
  m : (b * r + c * r.tw).Bd 600
  n : (b * r.tw + c * r).Bd 600
theorem MB.fb {d : Int} [Rt d] {a b c e r : QD d} (m : MB a b c e) (h : r.Bd 50) : FB a b c e r :=
  ⟨(m.ha.mul h).mono (by omega), (m.he.mul h.tw).mono (by omega), ((m.hb.mul h).add (m.hc.mul h.tw)).mono (by omega), ((m.hb.mul h.tw).add (m.hc.mul h)).mono (by omega)⟩
def φ_suits : Spc := fun ds Q => ∃ (d : Int) (_ : Rt d) (a b c e r : QD d), ds = [.int d, mD a b c e, r.L] ∧ MB a b c e ∧ r.Bd 50 ∧ Q (.bool (SU a b c e r))
theorem M_suits : MonoS φ_suits := fun _ _ _ h ⟨d, hr, a, b, c, e, r, eq, p1, p2, q⟩ => ⟨d, hr, a, b, c, e, r, eq, p1, p2, h _ q⟩
theorem c_suits (C : Nat → PyData) : ∀ ds Q, φ_suits ds Q → wDef (FL [φ_form_of, φ_turned_form_of, φ_is_never_below]) C m_suits 6 ds Q := by
  rintro _ Q ⟨d, hr, a, b, c, e, r, rfl, m, h, k⟩
  have B := m.fb h
  unfold SU at k
  refine ⟨d, hr, a, b, c, e, r, rfl, m, h, rfl, d, hr, _, _, _, rfl, B.f, B.m, B.l, callW_fz rfl (ite_of (fun h1 => ?_) (fun h1 => ?_))⟩
  · have h2 : NB (a * r) (b * r + c * r.tw) (e * r.tw) = false := by simpa using h1
    rw [h2] at k
    exact ⟨fz_ne, k⟩
  · have h2 : NB (a * r) (b * r + c * r.tw) (e * r.tw) = true := by simpa using h1
    rw [h2] at k
    exact ⟨d, hr, a, b, c, e, r, rfl, m, h, rfl, d, hr, _, _, _, rfl, B.f, B.n, B.l, fz_ne, k⟩
theorem c_law_twin (C : Nat → PyData) : ∀ ds Q, φ_twin ds Q → wDef (FL []) C m_law_twin 1 ds Q := by
  rintro _ Q ⟨d, x, rfl, k⟩
  rw [L_tw] at k
  exact ⟨_, rfl, _, rfl, _, rfl, rfl, by simp, fz_ne, k⟩
def φ_law_less : Spc := fun ds Q => ∃ (d : Int) (_ : Rt d) (x y : QD d), ds = [.int d, x.L, y.L] ∧ x.Bd 1990 ∧ y.Bd 1990 ∧ Q (.bool ((y - x).sg == 1))
theorem M_law_less : MonoS φ_law_less := fun _ _ _ h ⟨a, r, b, c, e, p1, p2, q⟩ => ⟨a, r, b, c, e, p1, p2, h _ q⟩
theorem c_law_less_v0 (C : Nat → PyData) : ∀ ds Q, φ_law_less ds Q → wDef (FL [φ_sign_of, φ_minus]) C m_law_less_v0 3 ds Q := by
  rintro _ Q ⟨d, hr, x, y, rfl, hx, hy, k⟩
  exact ⟨d, y, x, rfl, hy.mono (by omega), hx.mono (by omega), d, hr, _, rfl, (hy.sub hx).mono (by omega), rfl, rfl, fz_ne, k⟩
/-- a comprehension without a test, some answer for each item -/
theorem compW_nd {f : PyData → (Option PyData → Prop) → Prop} (P : PyData → Prop) {Q : List PyData → Prop} : ∀ (ds acc : List PyData), acc.length + ds.length ≤ LIM → (∀ x, x ∈ ds → ∀ k : Option PyData → Prop, (∀ y, P y → k (some y)) → f x k) → (∀ ys : List PyData, ys.length = ds.length → (∀ y, y ∈ ys → P y) → Q (acc ++ ys)) → compW f ds acc Q
  | [], acc, _, _, q => by simpa [compW] using q [] rfl (by simp)
  | x :: xs, acc, l, h, q => by
    refine h x List.mem_cons_self _ fun y hy => ⟨by simp at l; omega, ?_⟩
    refine compW_nd P xs (acc ++ [y]) (by simp at l ⊢; omega) (fun z hz => h z (List.mem_cons_of_mem _ hz)) fun ys h1 h2 => ?_
    have := q (y :: ys) (by simp [h1]) (fun z hz => by
      rcases List.mem_cons.mp hz with e | e
      · rw [e]; exact hy
      · exact h2 z e)
    simpa using this
theorem wE_comp {F : Nat → Spc} {C : Nat → PyData} {own : List Nat} {tg : Tt} {it : It} {b : E} {en : En} {Q : PyData → Tg → Prop} {ds : List PyData} {t : Tg} (hit : ∀ Q : List PyData → Tg → Prop, Q ds t → wIt F C it en Q) (hl : ds.length ≤ LIM) (g : PyData → PyData)
    (h : ∀ x, x ∈ ds → ∀ k : PyData → Prop, k (g x) → tgW tg x (wipeE en own) fun en' => wE F C b en' fun y t => t ≠ .bo ∧ k y) (q : Q (.list (ds.map g)) .fr) : wE F C (.comp own tg it (.con (.bool true)) b) en Q := by
  rw [wE]
  refine hit _ (comp_map g hl (fun x hx k hk => ?_) q)
  refine tgW_mono (fun en' w => ?_) (h x hx (fun y => k (some y)) hk)
  rw [wE]
  exact w
theorem wE_comp_nd {F : Nat → Spc} {C : Nat → PyData} {own : List Nat} {tg : Tt} {it : It} {b : E} {en : En} {Q : PyData → Tg → Prop} {ds : List PyData} {t : Tg} (hit : ∀ Q : List PyData → Tg → Prop, Q ds t → wIt F C it en Q) (hl : ds.length ≤ LIM) (P : PyData → Prop)
    (h : ∀ x, x ∈ ds → ∀ k : PyData → Prop, (∀ y, P y → k y) → tgW tg x (wipeE en own) fun en' => wE F C b en' fun y t => t ≠ .bo ∧ k y) (q : ∀ ys : List PyData, ys.length = ds.length → (∀ y, y ∈ ys → P y) → Q (.list ys) .fr) : wE F C (.comp own tg it (.con (.bool true)) b) en Q := by
  rw [wE]
  refine hit _ (compW_nd P ds [] (by simpa using hl) (fun x hx k hk => ?_) (by simpa using q))
  refine tgW_mono (fun en' w => ?_) (h x hx (fun y => k (some y)) hk)
  rw [wE]
  exact w
theorem env_eq {F : Nat → Spc} {C : Nat → PyData} {ss : Ss} {en : En} {D : Dn} (en' : En) (e : en = en') (h : wSs F C ss en' D) : wSs F C ss en D := by rw [e]; exact h
theorem ret_step {F : Nat → Spc} {C : Nat → PyData} {e : E} {ss : Ss} {en : En} {D : Dn} (h : wE F C e (frz en) fun d t => t ≠ .bo ∧ D.rt d) : wSs F C (.cons (.ret e) ss) en D := h
def φ_law_forms : Spc := fun ds Q => ∃ (d : Int) (_ : Rt d) (a b c e r : QD d), ds = [.int d, mD a b c e, r.L] ∧ MB a b c e ∧ r.Bd 50 ∧ Q (.list [.tuple [(a * r).L, (b * r + c * r.tw).L, (e * r.tw).L], .tuple [(a * r).L, (b * r.tw + c * r).L, (e * r.tw).L]])
theorem M_law_forms : MonoS φ_law_forms := fun _ _ _ h ⟨d, hr, a, b, c, e, r, eq, p1, p2, q⟩ => ⟨d, hr, a, b, c, e, r, eq, p1, p2, h _ q⟩
theorem c_law_forms (C : Nat → PyData) : ∀ ds Q, φ_law_forms ds Q → wDef (FL [φ_twin, φ_times, φ_plus]) C m_law_forms 12 ds Q := by
  rintro _ Q ⟨d, hr, a, b, c, e, r, rfl, m, h, k⟩
  have o : ∀ {x : QD d}, x.Bd 240 → x.Bd 4000 := fun h => h.mono (by omega)
  have hr4 : r.Bd 4000 := h.mono (by omega)
  have ht4 : r.tw.Bd 4000 := h.tw.mono (by omega)
  refine ⟨rfl, d, r, rfl, fz_ne, d, hr, a, r, rfl, o m.ha, hr4, d, hr, e, r.tw, rfl, o m.he, ht4, rfl, by simp, rfl, ?_⟩
  refine env_eq [some ⟨false, .int d⟩, some ⟨false, mD a b c e⟩, some ⟨false, r.L⟩, some ⟨false, a.L⟩, some ⟨false, b.L⟩, some ⟨false, c.L⟩, some ⟨false, e.L⟩, some ⟨false, r.tw.L⟩, some ⟨false, (a * r).L⟩, some ⟨false, (e * r.tw).L⟩, none, none] rfl ?_
  refine ⟨d, hr, b, r, rfl, o m.hb, hr4, d, hr, c, r.tw, rfl, o m.hc, ht4, d, _, _, rfl, (m.hb.mul h).mono (by omega), (m.hc.mul h.tw).mono (by omega), d, hr, b, r.tw, rfl, o m.hb, ht4, d, hr, c, r, rfl, o m.hc, hr4, d, _, _, rfl, (m.hb.mul h.tw).mono (by omega), (m.hc.mul h).mono (by omega), rfl, by simp, fr_ne, ?_⟩
  refine env_eq [some ⟨false, .int d⟩, some ⟨false, mD a b c e⟩, some ⟨false, r.L⟩, some ⟨false, a.L⟩, some ⟨false, b.L⟩, some ⟨false, c.L⟩, some ⟨false, e.L⟩, some ⟨false, r.tw.L⟩, some ⟨false, (a * r).L⟩, some ⟨false, (e * r.tw).L⟩, some ⟨false, .list [(b * r + c * r.tw).L, (b * r.tw + c * r).L]⟩, none] rfl ?_
  refine ret_step (wE_comp (ds := [(b * r + c * r.tw).L, (b * r.tw + c * r).L]) (t := .fz) (fun Q q => q) (by simp [LIM]) (fun x => .tuple [(a * r).L, x, (e * r.tw).L]) (fun x hx k hk => ?_) ⟨fr_ne, k⟩)
  exact ⟨rfl, by simp, fz_ne, hk⟩
theorem c_law_suits (C : Nat → PyData) : ∀ ds Q, φ_suits ds Q → wDef (FL [φ_law_forms, φ_times, φ_law_less, φ_sign_of]) C m_law_suits 7 ds Q := by
  rintro _ Q ⟨d, hr, a, b, c, e, r, rfl, m, h, k⟩
  have B := m.fb h
  have lt : ∀ x : QD d, decide (x.sg < 0) = (x.sg == -1) := fun x => by rcases QD.sg_cases x with h | h | h <;> rw [h] <;> rfl
  have body : ∀ (f g l : QD d) (v6 : Option Slot) (D : Dn), f.Bd 600 → g.Bd 600 → l.Bd 600 → (NB f g l = true → ∀ v6, D.nx [some ⟨false, .int d⟩, some ⟨false, mD a b c e⟩, some ⟨false, r.L⟩, some ⟨false, f.L⟩, some ⟨false, g.L⟩, some ⟨false, l.L⟩, v6]) → (NB f g l = false → D.rt (.bool false)) →
      wSs (FL [φ_law_forms, φ_times, φ_law_less, φ_sign_of]) C m_law_suits.fb [some ⟨false, .int d⟩, some ⟨false, mD a b c e⟩, some ⟨false, r.L⟩, some ⟨false, f.L⟩, some ⟨false, g.L⟩, some ⟨false, l.L⟩, v6] D := by
    intro f g l v6 D hf hg hl k1 k2
    unfold NB at k1 k2
    have hfl := hf.mul hl
    refine ⟨d, hr, f, rfl, hf.mono (by omega), callW_fz rfl (ite_of (fun h => ?_) (fun h => ?_))⟩
    · have h : (f.sg == -1) = true := (lt f).symm.trans h
      rw [h] at k2
      exact ⟨fz_ne, k2 rfl⟩
    · have h : (f.sg == -1) = false := (lt f).symm.trans h
      rw [h] at k1 k2
      refine ⟨d, hr, l, rfl, hl.mono (by omega), callW_fz rfl (ite_of (fun h => ?_) (fun h => ?_))⟩
      · have h : (l.sg == -1) = true := (lt l).symm.trans h
        rw [h] at k2
        exact ⟨fz_ne, k2 rfl⟩
      · have h : (l.sg == -1) = false := (lt l).symm.trans h
        rw [h] at k1 k2
        refine ⟨rfl, by simp, d, hr, f, l, rfl, hf.mono (by omega), hl.mono (by omega), d, hr, _, _, congrArg (fun z => [PyData.int d, z, (f * l).L]) (lit_L 4 0), four_bd.mono (by omega), hfl.mono (by omega), fz_ne, d, hr, g, g, rfl, hg.mono (by omega), hg.mono (by omega), d, hr, _, _, rfl, (four_bd.mul hfl).mono (by omega), (hg.mul hg).mono (by omega), callW_fz rfl (ite_of (fun h => ?_) (fun h => ?_))⟩
        · rw [h] at k2
          exact ⟨fz_ne, k2 rfl⟩
        · rw [h] at k1
          exact k1 rfl _
  unfold SU at k
  refine for_step ⟨d, hr, a, b, c, e, r, rfl, m, h, fz_ne, ?_⟩
  refine ⟨rfl, body _ _ _ _ _ B.f B.m B.l (fun h v6 => ⟨rfl, body _ _ _ _ _ B.f B.n B.l (fun h2 v6 => ⟨fz_ne, ?_⟩) (fun h2 => ?_)⟩) (fun h => ?_)⟩
  · rw [h, h2] at k; exact k
  · rw [h, h2] at k; exact k
  · rw [h] at k; exact k
/-! ### the same for 1 by r, for b and c exchanged -/
theorem NB_scale {d : Int} [Rt d] {f m l f' m' l' u v : QD d} (hu : u ≠ 0) (hv : v ≠ 0) (e1 : f' * (u * u) = f) (e2 : l' * (v * v) = l) (e3 : m' * (u * v) = m) : NB f m l = NB f' m' l' := by
  have h1 : f.sg = f'.sg := by rw [← e1, QD.sg_mul_sq _ hu]
  have h2 : l.sg = l'.sg := by rw [← e2, QD.sg_mul_sq _ hv]
  have huv : u * v ≠ 0 := by
    intro e
    have : u = u * v / v := by grind
    rw [e] at this
    apply hu
    grind
  have h3 : (m * m - QD.mkQ 4 0 1 * (f * l)).sg = (m' * m' - QD.mkQ 4 0 1 * (f' * l')).sg := by
    rw [← QD.sg_mul_sq (m' * m' - QD.mkQ 4 0 1 * (f' * l')) huv, ← e1, ← e2, ← e3]
    congr 1
    generalize (QD.mkQ 4 0 1 : QD d) = k
    grind
  unfold NB
  rw [h1, h2, h3]
theorem SU_inv {d : Int} [Rt d] (a b c e : QD d) {r : QD d} (h : r ≠ 0) : SU a b c e (1 / r) = SU a b c e r := by
  have ht := QD.tw_ne h
  have e1 : (1 / r).tw = 1 / r.tw := by rw [QD.tw_div, QD.tw_one]
  unfold SU
  rw [e1, Bool.and_comm]
  congr 1
  · exact (NB_scale (u := r) (v := r.tw) h ht (by grind) (by grind) (by grind)).symm
  · exact (NB_scale (u := r) (v := r.tw) h ht (by grind) (by grind) (by grind)).symm
theorem SU_swap {d : Int} (a b c e r : QD d) : SU a c b e r = SU a b c e r := by
  unfold SU
  rw [Bool.and_comm, show c * r.tw + b * r = b * r + c * r.tw by grind, show c * r + b * r.tw = b * r.tw + c * r by grind]
end Mi

set_option Elab.async false
set_option linter.all false
set_option maxRecDepth 100000
set_option maxHeartbeats 4000000
/-! The law's drawn measures. -/
namespace Mi
open PySem
theorem set_step {F : Nat → Spc} {C : Nat → PyData} {fz own : Bool} {i : Nat} {e : E} {ss : Ss} {en : En} {D : Dn} (h : wE F C e (frzIf fz en) fun d t => t ≠ .bo ∧ wSs F C ss ((frzIf fz en).set i (some ⟨own && decide (t = .fr), d⟩)) D) : wSs F C (.cons (.set fz own i e) ss) en D := h
theorem blt1 {F : Nat → Spc} {C : Nat → PyData} {b : Bi} {e : E} {en : En} {Q : PyData → Tg → Prop} (h : wE F C e en fun d t => biW b [d] Q) : wE F C (.blt b (.cons e .nil)) en Q := by
  rw [wE, wEs]
  simp only [wEs]
  exact h
def φ_timesR : Spc := fun ds Q => φ_times ds Q ∨ ∃ (d : Int) (_ : Rt d) (k s : Int) (x : QD d), ds = [.int d, .tuple [.int k, .int 0, .int s], x.L] ∧ s ≠ 0 ∧ k.natAbs < 2 ^ 100 ∧ s.natAbs < 2 ^ 100 ∧ x.Bd 4000 ∧ Q (QD.mkQ k 0 s * x).L
theorem M_timesR : MonoS φ_timesR := fun _ _ _ h w => w.elim (fun w => .inl (M_times _ _ _ h w)) fun ⟨d, hr, k, s, x, e, p1, p2, p3, p4, q⟩ => .inr ⟨d, hr, k, s, x, e, p1, p2, p3, p4, h _ q⟩
theorem times_timesR (ds : List PyData) (Q : PyData → Prop) (h : φ_times ds Q) : φ_timesR ds Q := .inl h
theorem raw_mul {d k s : Int} (x : QD d) (hs : s ≠ 0) : (QD.mkQ k 0 s * x : QD d) = QD.mkQ (k * x.p + d * 0 * x.q) (k * x.q + 0 * x.p) (s * x.s) := by
  have h1 := QD.cast_ne hs
  have h2 := x.s_ne
  have e0 : ((0 : Int) : Rat) = 0 := rfl
  ext
  · show (k : Rat) / s * x.a + d * (((0 : Int) : Rat) / s) * x.b = _ / _
    rw [x.a_eq, x.b_eq]
    simp only [Rat.intCast_mul, Rat.intCast_add, e0, QD.z0]
    grind
  · show (k : Rat) / s * x.b + (((0 : Int) : Rat) / s) * x.a = _ / _
    rw [x.a_eq, x.b_eq]
    simp only [Rat.intCast_mul, Rat.intCast_add, e0, QD.z0]
    grind
theorem c_law_timesR (C : Nat → PyData) : ∀ ds Q, φ_timesR ds Q → wDef (FL [φ_length]) C m_law_times_v0 4 ds Q := by
  intro ds Q h
  rcases h with h | ⟨d, hr, k, s, x, rfl, hs, hk, hsb, hx, q⟩
  · exact c_law_times_v0 C ds Q h
  · rw [raw_mul x hs] at q
    have z : (0 : Int).natAbs < 2 ^ 1 := by decide
    have fit : Fit (s * x.s) := ⟨Int.mul_ne_zero hs (by have := x.s_pos; omega), QD.bit_mono (QD.mul_bit hsb hx.hs) (by omega)⟩
    exact ⟨_, rfl, _, rfl, mul_ok hk hx.hp (by omega), _, rfl, mul_ok QD.root_bit z (by omega), _, rfl, mul_ok (QD.mul_bit QD.root_bit z) hx.hq (by omega), fz_ne, _, rfl, _, rfl, mul_ok hk hx.hq (by omega), _, rfl, _, rfl, mul_ok z hx.hp (by omega), _, rfl, _, rfl, mul_ok hsb hx.hs (by omega), d, _, _, _, rfl, fit, fz_ne, q⟩
theorem raw_bd {d k s : Int} {n : Nat} (hs : s ≠ 0) (hk : k.natAbs < 2 ^ n) (hsb : s.natAbs < 2 ^ n) : (QD.mkQ k 0 s : QD d).Bd n := .mk' hs hk (Nat.pow_pos (by decide)) hsb
def MQ (d : Int) (z : PyData) : Prop := ∃ a b c e : QD d, MB a b c e ∧ z = mD a b c e
abbrev T3 (p q s : Int) : PyData := .tuple [.int p, .int q, .int s]
def φ_ldm : Spc := fun ds Q => ∃ (d : Int) (_ : Rt d) (r : QD d) (ns : List Int), ds = [.int d, r.L, intL ns] ∧ r ≠ 0 ∧ r.Bd 9 ∧ 16 ≤ ns.length ∧ Dr ns ∧ ∀ ms : List PyData, ms.length ≤ 8 → (∀ z, z ∈ ms → MQ d z) → Q (.list ms)
theorem M_ldm : MonoS φ_ldm := fun _ _ _ h ⟨d, hr, r, ns, e, p1, p2, p3, p4, q⟩ => ⟨d, hr, r, ns, e, p1, p2, p3, p4, fun ms h1 h2 => h _ (q ms h1 h2)⟩
theorem cut_int' {ns : List Int} (a b : Nat) (hab : a ≤ b) (hb : b ≤ ns.length) : cutD (ns.map PyData.int) (some (a : Int)) (some (b : Int)) = ((ns.drop a).take (b - a)).map PyData.int := by
  unfold cutD
  rw [HT.sIx_nat, HT.sIx_nat, List.length_map, List.map_take, List.map_drop]
  have e1 : min a ns.length = a := by omega
  have e2 : min b ns.length = b := by omega
  rw [e1, e2]
theorem cut_dr' {ns : List Int} {a n : Nat} (h : Dr ns) : Dr ((ns.drop a).take n) := fun x hx => h x (List.mem_of_mem_drop (List.mem_of_mem_take hx))
def ldmF : List Spc := [φ_law_above, φ_law_size, φ_minus, φ_sign_of, φ_timesR, φ_over, φ_law_number, φ_twin]
theorem ldmM : ∀ φ, φ ∈ ldmF → MonoS φ := by
  intro φ h
  simp only [ldmF, List.mem_cons, List.not_mem_nil, or_false] at h
  rcases h with rfl | rfl | rfl | rfl | rfl | rfl | rfl | rfl
  all_goals first | exact M_law_above | exact M_law_size | exact M_minus | exact M_sign_of | exact M_timesR | exact M_over | exact M_law_number | exact M_twin
theorem c_law_drawn_measures (C : Nat → PyData) : ∀ ds Q, φ_ldm ds Q → wDef (FL ldmF) C m_law_drawn_measures 15 ds Q := by
  rintro _ Q ⟨d, hr, r, ns, rfl, h0, hb, hl, hd, k⟩
  have ht0 := QD.tw_ne h0
  refine ⟨rfl, by simp, rfl, by simp, rfl, by simp, rfl, ?_⟩
  refine env_eq [some ⟨false, .int d⟩, some ⟨false, r.L⟩, some ⟨false, intL ns⟩, some ⟨false, T3 0 0 1⟩, some ⟨false, T3 1 0 1⟩, none, none, none, none, none, none, none, none, none, none] rfl ?_
  refine set_step (blt1 (wE_comp_nd (ds := rangeD 0 4) (t := .fz) (fun Q q => ⟨⟨by decide, by decide, by decide, by decide⟩, q⟩) (by simp [LIM, rangeD]) (fun y => ∃ x : QD d, x.Bd 3 ∧ y = x.L) (fun x hx kk hk => ?_) (fun ys hy hp => ⟨fz_ne, ?_⟩)))
  · obtain ⟨j, hj, rfl⟩ : ∃ j : Nat, j < 4 ∧ x = .int j := by
      unfold rangeD at hx
      obtain ⟨j, hj, e⟩ := List.mem_map.mp hx
      exact ⟨j, List.mem_range.mp hj, by rw [← e]; simp⟩
    have e := cut_int' (ns := ns) (3 * j) (3 * j + 3) (by omega) (by omega)
    refine ⟨mul_small (by decide) (by omega), mul_small (by decide) (by omega), d, (ns.drop (3 * j)).take 3, ?_, ?_, cut_dr' hd, fun x hx => ⟨fz_ne, hk _ ⟨x, hx, rfl⟩⟩⟩
    · rw [show 3 * j + 3 - 3 * j = 3 by omega] at e
      exact congrArg (fun z => [PyData.list z]) e
    · rw [List.length_take, List.length_drop]; omega
  obtain ⟨A, hA⟩ : ∃ A : PyData, MQ d A ∧ A = .tuple ys := by
    match ys, hy, hp with
    | [y1, y2, y3, y4], _, hp =>
      obtain ⟨a, ha, rfl⟩ := hp y1 (by simp)
      obtain ⟨b, hb, rfl⟩ := hp y2 (by simp)
      obtain ⟨c, hc, rfl⟩ := hp y3 (by simp)
      obtain ⟨e, he, rfl⟩ := hp y4 (by simp)
      exact ⟨_, ⟨a, b, c, e, ⟨ha.mono (by omega), hb.mono (by omega), hc.mono (by omega), he.mono (by omega)⟩, rfl⟩, rfl⟩
  refine env_eq [some ⟨false, .int d⟩, some ⟨false, r.L⟩, some ⟨false, intL ns⟩, some ⟨false, T3 0 0 1⟩, some ⟨false, T3 1 0 1⟩, some ⟨false, A⟩, none, none, none, none, none, none, none, none, none] (by rw [hA.2]; rfl) ?_
  refine ⟨d, r, rfl, d, hr, r.tw, rfl, hb.tw.mono (by omega), rfl, by simp, fz_ne, ?_⟩
  refine ⟨d, hr, (ns.drop 12).take 3, congrArg (fun z => [PyData.int d, PyData.list z]) (cut_int' 12 15 (by omega) (by omega)), ?_, cut_dr' hd, fun sh shb _ => ⟨fz_ne, ?_⟩⟩
  · rw [List.length_take, List.length_drop]; omega
  have sb : r.tw.sg.natAbs < 2 ^ 2 := by rcases QD.sg_cases r.tw with h | h | h <;> rw [h] <;> decide
  generalize hsg : r.tw.sg = g at *
  refine env_eq [some ⟨false, .int d⟩, some ⟨false, r.L⟩, some ⟨false, intL ns⟩, some ⟨false, T3 0 0 1⟩, some ⟨false, T3 1 0 1⟩, some ⟨false, A⟩, none, some ⟨false, T3 g 0 1⟩, some ⟨false, sh.L⟩, none, none, none, none, none, none] rfl ?_
  have z4 : ∀ (u : QD d) {m : Nat}, u.Bd m → m ≤ 240 → u.Bd 240 := fun u m h l => h.mono l
  have o1 : (1 : QD d).Bd 240 := one_bd.mono (by omega)
  have o0 : (0 : QD d).Bd 240 := zero_bd.mono (by omega)
  have e1 : T3 1 0 1 = (1 : QD d).L := QD.L_one.symm
  have e0 : T3 0 0 1 = (0 : QD d).L := QD.L_zero.symm
  have em : T3 (-1) 0 1 = (QD.mkQ (-1) 0 1 : QD d).L := lit_L _ _
  have eg : T3 g 0 1 = (QD.mkQ g 0 1 : QD d).L := lit_L _ _
  have eng : T3 (-g) 0 1 = (QD.mkQ (-g) 0 1 : QD d).L := lit_L _ _
  have bm : (QD.mkQ (-1) 0 1 : QD d).Bd 240 := (raw_bd (n := 2) (by decide) (by decide) (by decide)).mono (by omega)
  have bg : (QD.mkQ g 0 1 : QD d).Bd 240 := (raw_bd (n := 2) (by decide) sb (by decide)).mono (by omega)
  have bng : (QD.mkQ (-g) 0 1 : QD d).Bd 240 := (raw_bd (n := 2) (by decide) (by rw [Int.natAbs_neg]; exact sb) (by decide)).mono (by omega)
  have bg1 : (QD.mkQ g 0 1 * 1 : QD d).Bd 240 := ((raw_bd (n := 2) (by decide) sb (by decide)).mul one_bd).mono (by omega)
  have shb' : sh.Bd 240 := shb.mono (by omega)
  refine .inr ⟨d, hr, g, 1, 1, congrArg (fun z => [PyData.int d, T3 g 0 1, z]) L_one', by decide, QD.bit_mono sb (by omega), by decide, one_bd.mono (by omega), ?_⟩
  refine ⟨rfl, by simp, _, rfl, rfl, by simp, rfl, by simp, rfl, by simp, rfl, by simp, rfl, by simp, rfl, by simp, fr_ne, ?_⟩
  refine env_eq [some ⟨false, .int d⟩, some ⟨false, r.L⟩, some ⟨false, intL ns⟩, some ⟨false, T3 0 0 1⟩, some ⟨false, T3 1 0 1⟩, some ⟨false, A⟩, none, some ⟨false, T3 g 0 1⟩, some ⟨false, sh.L⟩,
    some ⟨true, .list [A, .tuple [sh.L, T3 0 0 1, T3 0 0 1, (QD.mkQ g 0 1 * 1 : QD d).L], .tuple [T3 1 0 1, T3 0 0 1, T3 0 0 1, T3 (-g) 0 1], .tuple [T3 0 0 1, T3 1 0 1, T3 (-1) 0 1, T3 0 0 1], .tuple [T3 0 0 1, T3 1 0 1, T3 1 0 1, T3 0 0 1]]⟩, none, none, none, none, none] rfl ?_
  have hfound : ∀ z, z ∈ [A, .tuple [sh.L, T3 0 0 1, T3 0 0 1, (QD.mkQ g 0 1 * 1 : QD d).L], .tuple [T3 1 0 1, T3 0 0 1, T3 0 0 1, T3 (-g) 0 1], .tuple [T3 0 0 1, T3 1 0 1, T3 (-1) 0 1, T3 0 0 1], .tuple [T3 0 0 1, T3 1 0 1, T3 1 0 1, T3 0 0 1]] → MQ d z := by
    intro z hz
    rw [e1, e0, em, eng] at hz
    simp only [List.mem_cons, List.not_mem_nil, or_false] at hz
    rcases hz with rfl | rfl | rfl | rfl | rfl
    · exact hA.1
    · exact ⟨_, _, _, _, ⟨shb', o0, o0, bg1⟩, rfl⟩
    · exact ⟨_, _, _, _, ⟨o1, o0, o0, bng⟩, rfl⟩
    · exact ⟨_, _, _, _, ⟨o0, o1, bm, o0⟩, rfl⟩
    · exact ⟨_, _, _, _, ⟨o0, o1, o1, o0⟩, rfl⟩
  generalize hF0 : [A, PyData.tuple [sh.L, T3 0 0 1, T3 0 0 1, (QD.mkQ g 0 1 * 1 : QD d).L], .tuple [T3 1 0 1, T3 0 0 1, T3 0 0 1, T3 (-g) 0 1], .tuple [T3 0 0 1, T3 1 0 1, T3 (-1) 0 1, T3 0 0 1], .tuple [T3 0 0 1, T3 1 0 1, T3 1 0 1, T3 0 0 1]] = F0 at hfound ⊢
  have hF0l : F0.length = 5 := by rw [← hF0]; rfl
  -- size, cross
  have rest : ∀ z : QD d, z ≠ 0 → z.Bd 25 → wSs (FL ldmF) C (m_law_drawn_measures.dr 6) [some ⟨false, .int d⟩, some ⟨false, r.L⟩, some ⟨false, intL ns⟩, some ⟨false, T3 0 0 1⟩, some ⟨false, T3 1 0 1⟩, some ⟨false, A⟩, none, some ⟨false, T3 g 0 1⟩, some ⟨false, sh.L⟩, some ⟨true, .list F0⟩, some ⟨false, z.L⟩, none, none, none, none] { nx := fun _ => Q .none, rt := Q, bk := fun _ => False, ct := fun _ => False } := by
    intro z hz zb
    have b1 : (r / r.tw).Bd 41 := (hb.div hb.tw ht0).mono (by omega)
    have b2 : (r.tw / r).Bd 41 := (hb.tw.div hb h0).mono (by omega)
    have bc : (r / r.tw - r.tw / r).Bd 83 := (b1.sub b2).mono (by omega)
    refine ⟨d, r, rfl, d, hr, r, r.tw, rfl, hb.mono (by omega), hb.tw.mono (by omega), ht0, d, r, rfl, d, hr, r.tw, r, rfl, hb.tw.mono (by omega), hb.mono (by omega), h0, d, _, _, rfl, b1.mono (by omega), b2.mono (by omega), fz_ne, ?_⟩
    generalize hcr : r / r.tw - r.tw / r = cr at *
    refine env_eq [some ⟨false, .int d⟩, some ⟨false, r.L⟩, some ⟨false, intL ns⟩, some ⟨false, T3 0 0 1⟩, some ⟨false, T3 1 0 1⟩, some ⟨false, A⟩, none, some ⟨false, T3 g 0 1⟩, some ⟨false, sh.L⟩, some ⟨true, .list F0⟩, some ⟨false, z.L⟩, some ⟨false, cr.L⟩, none, none, none] rfl ?_
    refine ⟨rfl, rfl, ite_of (fun h => ?_) (fun h => ?_)⟩
    · have c0 : cr ≠ 0 := by
        have h : (!PyData.eqv cr.L (T3 0 0 1)) = true := h
        rw [show PyData.eqv cr.L (T3 0 0 1) = decide (cr = 0) by rw [e0, ← eqQ_def]; rfl] at h
        simpa using h
      obtain ⟨x, mx, ex⟩ := atI_get (ns := ns) (i := 15) (by omega)
      have r1 := fmod_rng x (show (0 : Int) < 9 by decide)
      refine for_step ⟨rfl, by simp, _, ex, by decide, rfl, by simp, rfl, by simp, rfl, by simp, fr_ne, ?_⟩
      refine for_rule (fl_mono ldmM) (fun i en => ∃ (ms : List PyData) (v12 v13 v14 : Option Slot), ms.length = 5 + i ∧ (∀ z, z ∈ ms → MQ d z) ∧ en = [some ⟨false, .int d⟩, some ⟨false, r.L⟩, some ⟨false, intL ns⟩, some ⟨false, T3 0 0 1⟩, some ⟨false, T3 1 0 1⟩, some ⟨false, A⟩, none, some ⟨false, T3 g 0 1⟩, some ⟨false, sh.L⟩, some ⟨true, .list ms⟩, some ⟨false, z.L⟩, some ⟨false, cr.L⟩, v12, v13, v14]) ⟨F0, none, none, none, hF0l, hfound, rfl⟩ (fun i y en hy hI => ?_) (fun en hI => ?_)
      · obtain ⟨ms, v12, v13, v14, hl5, hms, rfl⟩ := hI
        have hi : i < 3 := (List.getElem?_eq_some_iff.mp hy).1
        obtain ⟨kk, ss, rfl, k1, k2, k3⟩ : ∃ kk ss : Int, y = T3 kk 0 ss ∧ kk.natAbs < 2 ^ 3 ∧ ss ≠ 0 ∧ ss.natAbs < 2 ^ 3 := by
          rcases List.mem_cons.mp (List.mem_of_getElem? hy) with h | h
          · exact ⟨2, 1, h, by decide, by decide, by decide⟩
          · rcases List.mem_cons.mp h with h | h
            · exact ⟨x.fmod 9 - 4, 2, h, by omega, by decide, by decide⟩
            · rcases List.mem_cons.mp h with h | h
              · exact ⟨3, 1, h, by decide, by decide, by decide⟩
              · cases h
        have i1 : (1 / r).Bd 33 := (one_bd.div hb h0).mono (by omega)
        have i2 : (1 / r.tw).Bd 33 := (one_bd.div hb.tw ht0).mono (by omega)
        have m1 : (QD.mkQ kk 0 ss * (1 / r) : QD d).Bd 43 := ((raw_bd k2 k1 k3).mul i1).mono (by omega)
        have m2 : (QD.mkQ (-kk) 0 ss * (1 / r.tw) : QD d).Bd 43 := ((raw_bd k2 (by rw [Int.natAbs_neg]; exact k1) k3).mul i2).mono (by omega)
        refine ⟨d, hr, 1, r, congrArg (fun z => [PyData.int d, z, r.L]) L_one', one_bd.mono (by omega), hb.mono (by omega), h0, .inr ⟨d, hr, kk, ss, 1 / r, rfl, k2, QD.bit_mono k1 (by omega), QD.bit_mono k3 (by omega), i1.mono (by omega), d, hr, _, cr, rfl, m1.mono (by omega), bc.mono (by omega), c0, fz_ne, ?_⟩⟩
        refine env_eq [some ⟨false, .int d⟩, some ⟨false, r.L⟩, some ⟨false, intL ns⟩, some ⟨false, T3 0 0 1⟩, some ⟨false, T3 1 0 1⟩, some ⟨false, A⟩, none, some ⟨false, T3 g 0 1⟩, some ⟨false, sh.L⟩, some ⟨true, .list ms⟩, some ⟨false, z.L⟩, some ⟨false, cr.L⟩, some ⟨false, T3 kk 0 ss⟩, some ⟨false, (QD.mkQ kk 0 ss * (1 / r) / cr : QD d).L⟩, v14] rfl ?_
        refine ⟨_, rfl, _, rfl, rfl, by simp, d, r, rfl, d, hr, 1, r.tw, congrArg (fun z => [PyData.int d, z, r.tw.L]) L_one', one_bd.mono (by omega), hb.tw.mono (by omega), ht0, .inr ⟨d, hr, -kk, ss, 1 / r.tw, rfl, k2, QD.bit_mono (by rw [Int.natAbs_neg]; exact k1) (show 3 ≤ 100 by omega), QD.bit_mono k3 (by omega), i2.mono (by omega), d, hr, _, cr, rfl, m2.mono (by omega), bc.mono (by omega), c0, fz_ne, ?_⟩⟩
        refine env_eq [some ⟨false, .int d⟩, some ⟨false, r.L⟩, some ⟨false, intL ns⟩, some ⟨false, T3 0 0 1⟩, some ⟨false, T3 1 0 1⟩, some ⟨false, A⟩, none, some ⟨false, T3 g 0 1⟩, some ⟨false, sh.L⟩, some ⟨true, .list ms⟩, some ⟨false, z.L⟩, some ⟨false, cr.L⟩, some ⟨false, T3 kk 0 ss⟩, some ⟨false, (QD.mkQ kk 0 ss * (1 / r) / cr : QD d).L⟩, some ⟨false, (QD.mkQ (-kk) 0 ss * (1 / r.tw) / cr : QD d).L⟩] rfl ?_
        refine ⟨d, hr, 1, z, congrArg (fun u => [PyData.int d, u, z.L]) L_one', one_bd.mono (by omega), zb.mono (by omega), hz, rfl, by simp, fz_ne, by have : ms.length < 1000000 := by omega
                                                                                                                                                        exact this, ms ++ [.tuple [(1 / z).L, (QD.mkQ kk 0 ss * (1 / r) / cr : QD d).L, (QD.mkQ (-kk) 0 ss * (1 / r.tw) / cr : QD d).L, T3 g 0 1]], _, _, _, by simp; omega, fun y hy => ?_, rfl⟩
        rcases List.mem_append.mp hy with h | h
        · exact hms y h
        · simp only [List.mem_cons, List.not_mem_nil, or_false] at h
          subst h
          rw [eg]
          exact ⟨_, _, _, _, ⟨(one_bd.div zb hz).mono (by omega), (m1.div bc c0).mono (by omega), (m2.div bc c0).mono (by omega), bg⟩, rfl⟩
      · obtain ⟨ms, v12, v13, v14, hl5, hms, rfl⟩ := hI
        exact ⟨fz_ne, k ms (by rw [hl5]; exact Nat.le_refl 8) hms⟩
    · exact ⟨fz_ne, k F0 (by omega) hfound⟩
  have zz : r * r.tw ≠ 0 := by
    intro e
    apply h0
    have : r = r * r.tw / r.tw := by grind
    rw [e] at this
    rw [this]; grind
  have zb : (r * r.tw).Bd 25 := (hb.mul hb.tw).mono (by omega)
  refine ⟨d, r, rfl, .inl ⟨d, hr, r, r.tw, rfl, hb.mono (by omega), hb.tw.mono (by omega), d, hr, _, rfl, zb.mono (by omega), fun _ => ⟨fz_ne, rest _ zz zb⟩, fun _ => ⟨fz_ne, rest _ (fun e => zz ?_) zb.neg⟩⟩⟩
  have : r * r.tw = -(-(r * r.tw)) := by grind
  rw [this, e]; grind
end Mi

set_option Elab.async false
set_option linter.all false
set_option maxRecDepth 100000
set_option maxHeartbeats 4000000
/-! The law of the measures that suit, over data. -/
namespace Mi
open PySem
/-- law(script): script 0, draws 1, root 2, drawn 3, fraction 4, heel 5, great 6, r 7, measure 8, zero 9, one 10 -/
def cs_law_v1 : Cs := { N := ["script", "draws", "root", "drawn", "fraction", "heel", "great", "r", "measure", "zero", "one"], fn := [("_law_draws", 2), ("_law_root", 1), ("_law_above", 2), ("_law_size", 2), ("_law_norm", 3), ("suits", 3), ("_law_drawn_measures", 3), ("_law_told", 3)], cn := [], ow := [] }
def m_law_v1 : Ss := (.cons (.set false false 1 (.call false 0 (.cons (.var 0) (.cons (.con (.int 50)) .nil))))
 (.cons (.set false false 2 (.call false 1 (.cons (.idx (.var 1) (.con (.int 0))) .nil)))
 (.cons (.set false false 3 (.call false 2 (.cons (.var 2) (.cons (.slc (.var 1) (.con (.int 1)) (.con (.int 4))) .nil))))
 (.cons (.par [4, 5] (.cons (.tup (.cons (.bin .add (.con (.int 1)) (.bin .mod (.idx (.var 1) (.con (.int 4))) (.con (.int 9)))) (.cons (.con (.int 0)) (.cons (.bin .add (.con (.int 1)) (.bin .mod (.idx (.var 1) (.con (.int 5))) (.con (.int 5)))) .nil)))) (.cons (.call false 4 (.cons (.con (.int 0)) (.cons (.bin .add (.con (.int 1)) (.bin .mod (.idx (.var 1) (.con (.int 6))) (.con (.int 5)))) (.cons (.bin .add (.con (.int 1)) (.bin .mod (.idx (.var 1) (.con (.int 7))) (.con (.int 5)))) .nil)))) .nil)))
 (.cons (.set false false 6 (.call false 3 (.cons (.var 2) (.cons (.call false 4 (.cons (.bin .mod (.idx (.var 1) (.con (.int 8))) (.con (.int 100))) (.cons (.bin .add (.con (.int 1)) (.bin .mod (.idx (.var 1) (.con (.int 9))) (.con (.int 50)))) (.cons (.bin .add (.con (.int 1)) (.bin .mod (.idx (.var 1) (.con (.int 10))) (.con (.int 9)))) .nil)))) .nil))))
 (.cons (.for_ false (.one 7) (.seq (.lst (.cons (.var 3) (.cons (.call false 4 (.cons (.idx (.var 4) (.con (.int 0))) (.cons (.con (.int 0)) (.cons (.idx (.var 4) (.con (.int 2))) .nil)))) (.cons (.var 5) (.cons (.var 6) .nil)))))) (.cons (.for_ false (.one 8) (.seq (.step (.bin .add (.call false 6 (.cons (.var 2) (.cons (.var 7) (.cons (.slc (.var 1) (.con (.int 11)) (.con (.int 27))) .nil)))) (.slc (.call false 6 (.cons (.var 2) (.cons (.var 7) (.cons (.slc (.var 1) (.con (.int 27)) (.con (.int 43))) .nil)))) (.con (.int 5)) (.con .none))) (.bin .mod (.idx (.var 1) (.con (.int 43))) (.con (.int 2))))) (.cons (.ifs (.not (.call false 7 (.cons (.var 2) (.cons (.var 8) (.cons (.var 7) .nil))))) (.cons (.ret (.con (.bool false)))
 .nil) .nil)
 .nil))
 .nil))
 (.cons (.unp false [9, 10] (.tup (.cons (.tup (.cons (.con (.int 0)) (.cons (.con (.int 0)) (.cons (.con (.int 1)) .nil)))) (.cons (.tup (.cons (.con (.int 1)) (.cons (.con (.int 0)) (.cons (.con (.int 1)) .nil)))) .nil))))
 (.cons (.for_ false (.one 7) (.seq (.lst (.cons (.tup (.cons (.con (.int 1)) (.cons (.con (.int 1)) (.cons (.con (.int 1)) .nil)))) (.cons (.tup (.cons (.neg (.con (.int 1))) (.cons (.con (.int 1)) (.cons (.con (.int 1)) .nil)))) (.cons (.tup (.cons (.con (.int 2)) (.cons (.con (.int 1)) (.cons (.con (.int 1)) .nil)))) (.cons (.var 10) .nil)))))) (.cons (.for_ false (.one 8) (.seq (.lst (.cons (.tup (.cons (.var 10) (.cons (.var 9) (.cons (.var 9) (.cons (.var 10) .nil))))) (.cons (.tup (.cons (.var 10) (.cons (.var 9) (.cons (.var 9) (.cons (.tup (.cons (.neg (.con (.int 1))) (.cons (.con (.int 0)) (.cons (.con (.int 1)) .nil)))) .nil))))) (.cons (.bin .mul (.tup (.cons (.var 9) .nil)) (.con (.int 4))) (.cons (.tup (.cons (.var 9) (.cons (.var 10) (.cons (.tup (.cons (.neg (.con (.int 1))) (.cons (.con (.int 0)) (.cons (.con (.int 1)) .nil)))) (.cons (.var 9) .nil))))) (.cons (.tup (.cons (.var 9) (.cons (.var 9) (.cons (.var 9) (.cons (.tup (.cons (.neg (.con (.int 1))) (.cons (.con (.int 0)) (.cons (.con (.int 1)) .nil)))) .nil))))) .nil))))))) (.cons (.ifs (.not (.call false 7 (.cons (.con (.int 2)) (.cons (.var 8) (.cons (.var 7) .nil))))) (.cons (.ret (.con (.bool false)))
 .nil) .nil)
 .nil))
 .nil))
 (.cons (.ifs (.or (.cmp .isnot (.call false 5 (.cons (.con (.int 2)) (.cons (.tup (.cons (.var 10) (.cons (.var 9) (.cons (.var 9) (.cons (.var 10) .nil))))) (.cons (.tup (.cons (.con (.int 2)) (.cons (.con (.int 1)) (.cons (.con (.int 1)) .nil)))) .nil)))) (.con (.bool true))) (.cmp .isnot (.call false 5 (.cons (.con (.int 2)) (.cons (.tup (.cons (.var 10) (.cons (.var 9) (.cons (.var 9) (.cons (.var 10) .nil))))) (.cons (.tup (.cons (.con (.int 1)) (.cons (.con (.int 1)) (.cons (.con (.int 1)) .nil)))) .nil)))) (.con (.bool false)))) (.cons (.ret (.con (.bool false)))
 .nil) .nil)
 (.cons (.ret (.and (.cmp .is (.call false 5 (.cons (.con (.int 2)) (.cons (.tup (.cons (.var 10) (.cons (.tup (.cons (.con (.int 2)) (.cons (.con (.int 0)) (.cons (.con (.int 1)) .nil)))) (.cons (.var 9) (.cons (.var 10) .nil))))) (.cons (.var 10) .nil)))) (.con (.bool true))) (.and (.cmp .is (.call false 5 (.cons (.con (.int 2)) (.cons (.tup (.cons (.var 10) (.cons (.tup (.cons (.con (.int 3)) (.cons (.con (.int 0)) (.cons (.con (.int 1)) .nil)))) (.cons (.var 9) (.cons (.var 10) .nil))))) (.cons (.var 10) .nil)))) (.con (.bool false))) (.cmp .is (.call false 5 (.cons (.con (.int 3)) (.cons (.tup (.cons (.var 9) (.cons (.var 10) (.cons (.tup (.cons (.neg (.con (.int 1))) (.cons (.con (.int 0)) (.cons (.con (.int 1)) .nil)))) (.cons (.var 9) .nil))))) (.cons (.tup (.cons (.con (.int 5)) (.cons (.con (.int 0)) (.cons (.con (.int 2)) .nil)))) .nil)))) (.con (.bool true))))))
 .nil))))))))))

instance rt2 : Rt 2 := ⟨by decide⟩
instance rt3 : Rt 3 := ⟨by decide⟩
def φ_told47 : Spc := fun ds Q => ∃ (d : Int) (_ : Rt d) (z : PyData) (r : QD d), ds = [.int d, z, r.L] ∧ MQ d z ∧ r ≠ 0 ∧ r.Bd 16 ∧ Q (.bool true)
theorem M_told47 : MonoS φ_told47 := fun _ _ _ h ⟨d, hr, z, r, e, p1, p2, p3, q⟩ => ⟨d, hr, z, r, e, p1, p2, p3, h _ q⟩
theorem rep3 (b : Bool) : reprOk (.list [.bool b, .bool b, .bool b]) := by cases b <;> exact ⟨by decide +kernel, by decide +kernel, by decide +kernel, by decide +kernel⟩
theorem okShown (b : Bool) : okD (.str (PyData.shown (.list [.bool b, .bool b, .bool b]))) := by cases b <;> decide +kernel
theorem eqv_str (x : Str) : PyData.eqv (.str x) (.str x) = true := by simp [PyData.eqv]
theorem c_law_told_v0 (C : Nat → PyData) : ∀ ds Q, φ_told47 ds Q → wDef (FL [φ_suits, φ_suits, φ_over]) C m_law_told_v0 5 ds Q := by
  rintro _ Q ⟨d, hr, _, r, rfl, ⟨a, b, c, e, m, rfl⟩, h0, hb, k⟩
  have h : r.Bd 50 := hb.mono (by omega)
  have hi : (1 / r).Bd 50 := (one_bd.div hb h0).mono (by omega)
  refine ⟨d, hr, a, b, c, e, r, rfl, m, h, fz_ne, ?_⟩
  refine ⟨d, hr, a, b, c, e, r, rfl, m, h, rfl, by simp, d, hr, 1, r, congrArg (fun z => [PyData.int d, z, r.L]) L_one', one_bd.mono (by omega), hb.mono (by omega), h0, d, hr, a, b, c, e, 1 / r, rfl, m, hi, _, rfl, _, rfl, _, rfl, _, rfl, rfl, by simp, d, hr, a, c, b, e, r, rfl, ⟨m.ha, m.hc, m.hb, m.he⟩, h, rfl, by simp, fr_ne, ?_⟩
  refine env_eq [some ⟨false, .int d⟩, some ⟨false, mD a b c e⟩, some ⟨false, r.L⟩, some ⟨false, .bool (SU a b c e r)⟩, some ⟨false, .list [.bool (SU a b c e r), .bool (SU a b c e r), .bool (SU a b c e r)]⟩] (by rw [SU_inv a b c e h0, SU_swap a b c e r]; rfl) ?_
  generalize SU a b c e r = s
  refine ⟨rep3 s, rfl, by simp, by decide, by decide, by simp, rep3 s, okShown s, okShown s, fz_ne, ?_⟩
  exact cast (congrArg (fun b => Q (.bool b)) (eqv_str _)).symm k
theorem lit_T {d : Int} (p q : Int) : T3 p q 1 = (QD.mkQ p q 1 : QD d).L := lit_L p q
theorem lit_T2 {d : Int} : T3 5 0 2 = (QD.mkQ 5 0 2 : QD d).L := (L_lit (d := d) (p := 5) (q := 0) (s := 2) (by decide) (by decide)).1
theorem su_eq (d k1 k2 k3 k4 p q : Int) : [PyData.int d, .tuple [T3 k1 0 1, T3 k2 0 1, T3 k3 0 1, T3 k4 0 1], T3 p q 1] = [PyData.int d, mD (QD.mkQ k1 0 1 : QD d) (QD.mkQ k2 0 1) (QD.mkQ k3 0 1) (QD.mkQ k4 0 1), (QD.mkQ p q 1 : QD d).L] := by
  rw [lit_T (d := d) k1 0, lit_T (d := d) k2 0, lit_T (d := d) k3 0, lit_T (d := d) k4 0, lit_T (d := d) p q]
theorem su_eq2 (d k1 k2 k3 k4 : Int) : [PyData.int d, .tuple [T3 k1 0 1, T3 k2 0 1, T3 k3 0 1, T3 k4 0 1], T3 5 0 2] = [PyData.int d, mD (QD.mkQ k1 0 1 : QD d) (QD.mkQ k2 0 1) (QD.mkQ k3 0 1) (QD.mkQ k4 0 1), (QD.mkQ 5 0 2 : QD d).L] := by
  rw [lit_T (d := d) k1 0, lit_T (d := d) k2 0, lit_T (d := d) k3 0, lit_T (d := d) k4 0, lit_T2 (d := d)]
theorem mb_lit {d : Int} {k1 k2 k3 k4 : Int} (h1 : k1.natAbs < 2 ^ 3) (h2 : k2.natAbs < 2 ^ 3) (h3 : k3.natAbs < 2 ^ 3) (h4 : k4.natAbs < 2 ^ 3) : MB (QD.mkQ k1 0 1 : QD d) (QD.mkQ k2 0 1) (QD.mkQ k3 0 1) (QD.mkQ k4 0 1) :=
  ⟨(raw_bd (by decide) h1 (by decide)).mono (by omega), (raw_bd (by decide) h2 (by decide)).mono (by omega), (raw_bd (by decide) h3 (by decide)).mono (by omega), (raw_bd (by decide) h4 (by decide)).mono (by omega)⟩
theorem mq_lit {d : Int} (k1 k2 k3 k4 : Int) (h1 : k1.natAbs < 2 ^ 3) (h2 : k2.natAbs < 2 ^ 3) (h3 : k3.natAbs < 2 ^ 3) (h4 : k4.natAbs < 2 ^ 3) : MQ d (.tuple [T3 k1 0 1, T3 k2 0 1, T3 k3 0 1, T3 k4 0 1]) :=
  ⟨_, _, _, _, mb_lit h1 h2 h3 h4, by rw [lit_T (d := d) k1 0, lit_T (d := d) k2 0, lit_T (d := d) k3 0, lit_T (d := d) k4 0]⟩
theorem su1 : SU (QD.mkQ 1 0 1 : QD 2) (QD.mkQ 0 0 1) (QD.mkQ 0 0 1) (QD.mkQ 1 0 1) (QD.mkQ 2 1 1) = true := by decide +kernel
theorem su2 : SU (QD.mkQ 1 0 1 : QD 2) (QD.mkQ 0 0 1) (QD.mkQ 0 0 1) (QD.mkQ 1 0 1) (QD.mkQ 1 1 1) = false := by decide +kernel
theorem su3 : SU (QD.mkQ 1 0 1 : QD 2) (QD.mkQ 2 0 1) (QD.mkQ 0 0 1) (QD.mkQ 1 0 1) (QD.mkQ 1 0 1) = true := by decide +kernel
theorem su4 : SU (QD.mkQ 1 0 1 : QD 2) (QD.mkQ 3 0 1) (QD.mkQ 0 0 1) (QD.mkQ 1 0 1) (QD.mkQ 1 0 1) = false := by decide +kernel
theorem su5 : SU (QD.mkQ 0 0 1 : QD 3) (QD.mkQ 1 0 1) (QD.mkQ (-1) 0 1) (QD.mkQ 0 0 1) (QD.mkQ 5 0 2) = true := by decide +kernel
def law47F : List Spc := [φ_law_draws, φ_law_root, φ_law_above, φ_law_size, φ_length, φ_suits, φ_ldm, φ_told47]
theorem law47M : ∀ φ, φ ∈ law47F → MonoS φ := by
  intro φ h
  simp only [law47F, List.mem_cons, List.not_mem_nil, or_false] at h
  rcases h with rfl | rfl | rfl | rfl | rfl | rfl | rfl | rfl
  all_goals first | exact M_law_draws | exact M_law_root | exact M_law_above | exact M_law_size | exact M_length | exact M_suits | exact M_ldm | exact M_told47
theorem sg_mk' {d : Int} {p q s : Int} (hq : q ≠ 0) (hs : 0 < s) : (QD.mkQ p q s : QD d) ≠ 0 := fun e => by
  have := congrArg QD.b e
  have h1 := QD.cast_ne hq
  have h2 := QD.cast_ne (show s ≠ 0 by omega)
  have h3 : (q : Rat) / s = 0 := this
  grind
theorem mk_ne {d : Int} {p q s : Int} (hp : p ≠ 0) (hs : 0 < s) : (QD.mkQ p q s : QD d) ≠ 0 := fun e => by
  have := congrArg QD.a e
  have h1 := QD.cast_ne hp
  have h2 := QD.cast_ne (show s ≠ 0 by omega)
  have h3 : (p : Rat) / s = 0 := this
  grind
theorem ne_sg1 {d : Int} {x : QD d} (h : x.sg = 1) : x ≠ 0 := fun e => by rw [e, QD.sg_zero_iff.mpr rfl] at h; cases h
theorem not_tt {s : Bool} (h : s = true) (h2 : (!decide (s = true)) = true) : False := by rw [h] at h2; cases h2
theorem not_ff {s : Bool} (h : s = false) (h2 : (!decide (s = false)) = true) : False := by rw [h] at h2; cases h2
theorem is_tt {s : Bool} (h : s = true) (h2 : decide (s = true) = false) : False := by rw [h] at h2; cases h2
theorem is_ff {s : Bool} (h : s = false) (h2 : decide (s = false) = false) : False := by rw [h] at h2; cases h2
theorem c_law_v1 (C : Nat → PyData) : ∀ ds Q, φLaw ds Q → wDef (FL law47F) C m_law_v1 11 ds Q := by
  rintro _ Q ⟨ns, rfl, hl, k⟩
  refine ⟨ns, 50, rfl, hl, by decide, fun D hD hDr => ?_⟩
  obtain ⟨x0, _, e0⟩ := at0 (ns := D) (by omega) hDr
  have at_ : ∀ i : Nat, i < 50 → ∃ x, atD (D.map PyData.int) (i : Int) = some (.int x) := fun i hi => let ⟨x, _, e⟩ := atI_get (ns := D) (i := i) (by omega); ⟨x, e⟩
  obtain ⟨x4, e4⟩ := at_ 4 (by decide)
  obtain ⟨x5, e5⟩ := at_ 5 (by decide)
  obtain ⟨x6, e6⟩ := at_ 6 (by decide)
  obtain ⟨x7, e7⟩ := at_ 7 (by decide)
  obtain ⟨x8, e8⟩ := at_ 8 (by decide)
  obtain ⟨x9, e9⟩ := at_ 9 (by decide)
  obtain ⟨x10, e10⟩ := at_ 10 (by decide)
  obtain ⟨x43, e43⟩ := at_ 43 (by decide)
  have r4 := fmod_rng x4 (show (0 : Int) < 9 by decide)
  have r5 := fmod_rng x5 (show (0 : Int) < 5 by decide)
  have r6 := fmod_rng x6 (show (0 : Int) < 5 by decide)
  have r7 := fmod_rng x7 (show (0 : Int) < 5 by decide)
  have r8 := fmod_rng x8 (show (0 : Int) < 100 by decide)
  have r9 := fmod_rng x9 (show (0 : Int) < 50 by decide)
  have r10 := fmod_rng x10 (show (0 : Int) < 9 by decide)
  have s5 : (1 + x5.fmod 5).natAbs < 2 ^ 4 := by omega
  have s7 : (1 + x7.fmod 5).natAbs < 2 ^ 4 := by omega
  have s10 : (1 + x10.fmod 9).natAbs < 2 ^ 4 := by omega
  refine ⟨fz_ne, _, e0, _, rfl, fun d hr => ⟨fz_ne, ?_⟩⟩
  refine ⟨d, hr, (D.drop 1).take 3, congrArg (fun z => [PyData.int d, PyData.list z]) (cut_int' 1 4 (by omega) (by omega)), ?_, cut_dr' hDr, fun dw dwb dws => ⟨fz_ne, ?_⟩⟩
  · rw [List.length_take, List.length_drop]; omega
  have dw0 := ne_sg1 dws
  refine ⟨_, e4, by decide, _, e5, by decide, rfl, by simp, _, e6, by decide, _, e7, by decide, d, _, _, _, rfl, ⟨by omega, QD.bit_mono s7 (by decide)⟩, rfl, rfl, ?_⟩
  have hb : (QD.mkQ 0 (1 + x6.fmod 5) (1 + x7.fmod 5) : QD d).Bd 9 := .mk' (by omega) (by decide) (by omega) (QD.bit_mono s7 (by omega))
  have h0 : (QD.mkQ 0 (1 + x6.fmod 5) (1 + x7.fmod 5) : QD d) ≠ 0 := sg_mk' (by omega) (by omega)
  have fb : (QD.mkQ (1 + x4.fmod 9) 0 (1 + x5.fmod 5) : QD d).Bd 9 := .mk' (by omega) (by omega) (by decide) (QD.bit_mono s5 (by omega))
  have f0 : (QD.mkQ (1 + x4.fmod 9) 0 (1 + x5.fmod 5) : QD d) ≠ 0 := mk_ne (by omega) (by omega)
  have gb : (QD.mkQ (x8.fmod 100) (1 + x9.fmod 50) (1 + x10.fmod 9) : QD d).Bd 9 := .mk' (by omega) (by omega) (by omega) (QD.bit_mono s10 (by omega))
  have g0 : (QD.mkQ (x8.fmod 100) (1 + x9.fmod 50) (1 + x10.fmod 9) : QD d) ≠ 0 := sg_mk' (by omega) (by omega)
  have ff : Fit (1 + x5.fmod 5) := ⟨by omega, QD.bit_mono s5 (by decide)⟩
  have hp : 0 < 1 + x5.fmod 5 := by omega
  generalize QD.mkQ 0 (1 + x6.fmod 5) (1 + x7.fmod 5) = he at *
  generalize hP : 1 + x4.fmod 9 = P at *
  generalize hS : 1 + x5.fmod 5 = S at *
  refine env_eq [some ⟨false, scrD ns⟩, some ⟨false, intL D⟩, some ⟨false, .int d⟩, some ⟨false, dw.L⟩, some ⟨false, T3 P 0 S⟩, some ⟨false, he.L⟩, none, none, none, none, none] (by rw [← hP, ← hS]; rfl) ?_
  refine ⟨_, e8, by decide, _, e9, by decide, _, e10, by decide, d, _, _, _, rfl, ⟨by omega, QD.bit_mono s10 (by decide)⟩, ?_⟩
  generalize QD.mkQ (x8.fmod 100) (1 + x9.fmod 50) (1 + x10.fmod 9) = gr at *
  -- the great one, its sign taken away
  have rest : ∀ g : QD d, g ≠ 0 → g.Bd 9 → wSs (FL law47F) C (m_law_v1.dr 5) [some ⟨false, scrD ns⟩, some ⟨false, intL D⟩, some ⟨false, .int d⟩, some ⟨false, dw.L⟩, some ⟨false, T3 P 0 S⟩, some ⟨false, he.L⟩, some ⟨false, g.L⟩, none, none, none, none] { nx := fun _ => Q .none, rt := Q, bk := fun _ => False, ct := fun _ => False } := by
    intro g gz gbd
    refine for_step ⟨_, rfl, _, rfl, d, _, _, _, rfl, ff, rfl, by simp, fr_ne, ?_⟩
    refine for_rule (fl_mono law47M) (fun i en => ∃ v7 v8, en = [some ⟨false, scrD ns⟩, some ⟨false, intL D⟩, some ⟨false, .int d⟩, some ⟨false, dw.L⟩, some ⟨false, T3 P 0 S⟩, some ⟨false, he.L⟩, some ⟨false, g.L⟩, v7, v8, none, none]) ⟨_, _, rfl⟩ (fun i z en hz hI => ?_) (fun en hI => ?_)
    · obtain ⟨v7, v8, rfl⟩ := hI
      obtain ⟨R, R0, Rb, rfl⟩ : ∃ R : QD d, R ≠ 0 ∧ R.Bd 9 ∧ z = R.L := by
        rcases List.mem_cons.mp (List.mem_of_getElem? hz) with h | h
        · exact ⟨dw, dw0, dwb.mono (by omega), h⟩
        · rcases List.mem_cons.mp h with h | h
          · exact ⟨_, f0, fb, h⟩
          · rcases List.mem_cons.mp h with h | h
            · exact ⟨he, h0, hb, h⟩
            · rcases List.mem_cons.mp h with h | h
              · exact ⟨g, gz, gbd, h⟩
              · cases h
      have l1 : 16 ≤ ((D.drop 11).take (27 - 11)).length := by rw [List.length_take, List.length_drop]; omega
      have l2 : 16 ≤ ((D.drop 27).take (43 - 27)).length := by rw [List.length_take, List.length_drop]; omega
      refine for_step ⟨d, hr, R, (D.drop 11).take (27 - 11), congrArg (fun z => [PyData.int d, R.L, PyData.list z]) (cut_int' 11 27 (by omega) (by omega)), R0, Rb, l1, cut_dr' hDr, fun ms1 m1l m1 => ?_⟩
      refine ⟨d, hr, R, (D.drop 27).take (43 - 27), congrArg (fun z => [PyData.int d, R.L, PyData.list z]) (cut_int' 27 43 (by omega) (by omega)), R0, Rb, l2, cut_dr' hDr, fun ms2 m2l m2 => ?_⟩
      have cl : (cutD ms2 (some 5) none).length ≤ 8 := by
        unfold cutD
        rw [List.length_take, List.length_drop]; omega
      have cm : ∀ z, z ∈ cutD ms2 (some 5) none → MQ d z := fun z hz => m2 z (List.mem_of_mem_drop (List.mem_of_mem_take hz))
      have lim : ms1.length + (cutD ms2 (some 5) none).length ≤ LIM := by have : (16 : Nat) ≤ 1000000 := by decide
                                                                          show _ ≤ 1000000
                                                                          omega
      refine ⟨lim, _, e43, by decide, fun es he1 he2 => ⟨fr_ne, ?_⟩⟩
      refine for_rule (fl_mono law47M) (fun i en => ∃ v8, en = [some ⟨false, scrD ns⟩, some ⟨false, intL D⟩, some ⟨false, .int d⟩, some ⟨false, dw.L⟩, some ⟨false, T3 P 0 S⟩, some ⟨false, he.L⟩, some ⟨false, g.L⟩, some ⟨false, R.L⟩, v8, none, none]) ⟨_, rfl⟩ (fun i z en hz hI => ?_) (fun en hI => ?_)
      · obtain ⟨v8, rfl⟩ := hI
        have hm : MQ d z := by
          rcases List.mem_append.mp (he1 z (List.mem_of_getElem? hz)) with h | h
          · exact m1 z h
          · exact cm z h
        exact ⟨d, hr, z, R, rfl, hm, R0, Rb.mono (by omega), _, rfl⟩
      · obtain ⟨v8, rfl⟩ := hI
        exact ⟨_, _, rfl⟩
    · obtain ⟨v7, v8, rfl⟩ := hI
      refine ⟨rfl, by simp, rfl, by simp, rfl, by simp, rfl, ?_⟩
      refine env_eq [some ⟨false, scrD ns⟩, some ⟨false, intL D⟩, some ⟨false, .int d⟩, some ⟨false, dw.L⟩, some ⟨false, T3 P 0 S⟩, some ⟨false, he.L⟩, some ⟨false, g.L⟩, v7, v8, some ⟨false, T3 0 0 1⟩, some ⟨false, T3 1 0 1⟩] rfl ?_
      refine for_step ⟨rfl, by simp, rfl, by simp, rfl, by simp, rfl, by simp, fr_ne, ?_⟩
      refine for_rule (fl_mono law47M) (fun i en => ∃ v7 v8, en = [some ⟨false, scrD ns⟩, some ⟨false, intL D⟩, some ⟨false, .int d⟩, some ⟨false, dw.L⟩, some ⟨false, T3 P 0 S⟩, some ⟨false, he.L⟩, some ⟨false, g.L⟩, v7, v8, some ⟨false, T3 0 0 1⟩, some ⟨false, T3 1 0 1⟩]) ⟨_, _, rfl⟩ (fun i z en hz hI => ?_) (fun en hI => ?_)
      · obtain ⟨v7, v8, rfl⟩ := hI
        obtain ⟨R, R0, Rb, rfl⟩ : ∃ R : QD 2, R ≠ 0 ∧ R.Bd 16 ∧ z = R.L := by
          have nb : ∀ p q : Int, p.natAbs < 2 ^ 3 → q.natAbs < 2 ^ 3 → (QD.mkQ p q 1 : QD 2).Bd 16 := fun p q h1 h2 => (lit_bd h1 h2 (by decide)).mono (by omega)
          rcases List.mem_cons.mp (List.mem_of_getElem? hz) with h | h
          · exact ⟨QD.mkQ 1 1 1, mk_ne (by decide) (by decide), nb _ _ (by decide) (by decide), h.trans (lit_L 1 1)⟩
          · rcases List.mem_cons.mp h with h | h
            · exact ⟨QD.mkQ (-1) 1 1, mk_ne (by decide) (by decide), nb _ _ (by decide) (by decide), h.trans (lit_L (-1) 1)⟩
            · rcases List.mem_cons.mp h with h | h
              · exact ⟨QD.mkQ 2 1 1, mk_ne (by decide) (by decide), nb _ _ (by decide) (by decide), h.trans (lit_L 2 1)⟩
              · rcases List.mem_cons.mp h with h | h
                · exact ⟨QD.mkQ 1 0 1, mk_ne (by decide) (by decide), nb _ _ (by decide) (by decide), h.trans (lit_L 1 0)⟩
                · cases h
        refine for_step ⟨rfl, by simp, rfl, by simp, rfl, by simp, rfl, by simp, by simp, by decide, by decide, by simp, rfl, by simp, rfl, by simp, rfl, by simp, rfl, by simp, rfl, by simp, fr_ne, ?_⟩
        refine for_rule (fl_mono law47M) (fun i en => ∃ v8, en = [some ⟨false, scrD ns⟩, some ⟨false, intL D⟩, some ⟨false, .int d⟩, some ⟨false, dw.L⟩, some ⟨false, T3 P 0 S⟩, some ⟨false, he.L⟩, some ⟨false, g.L⟩, some ⟨false, R.L⟩, v8, some ⟨false, T3 0 0 1⟩, some ⟨false, T3 1 0 1⟩]) ⟨_, rfl⟩ (fun i z en hz hI => ?_) (fun en hI => ?_)
        · obtain ⟨v8, rfl⟩ := hI
          have hm : MQ 2 z := by
            have q := fun (k1 k2 k3 k4 : Int) h1 h2 h3 h4 => mq_lit (d := 2) k1 k2 k3 k4 h1 h2 h3 h4
            rcases List.mem_cons.mp (List.mem_of_getElem? hz) with h | h
            · rw [h]; exact q 1 0 0 1 (by decide) (by decide) (by decide) (by decide)
            · rcases List.mem_cons.mp h with h | h
              · rw [h]; exact q 1 0 0 (-1) (by decide) (by decide) (by decide) (by decide)
              · rcases List.mem_cons.mp h with h | h
                · rw [h]; exact q 0 0 0 0 (by decide) (by decide) (by decide) (by decide)
                · rcases List.mem_cons.mp h with h | h
                  · rw [h]; exact q 0 1 (-1) 0 (by decide) (by decide) (by decide) (by decide)
                  · rcases List.mem_cons.mp h with h | h
                    · rw [h]; exact q 0 0 0 (-1) (by decide) (by decide) (by decide) (by decide)
                    · cases h
          exact ⟨2, rt2, z, R, rfl, hm, R0, Rb, _, rfl⟩
        · obtain ⟨v8, rfl⟩ := hI
          exact ⟨_, _, rfl⟩
      · obtain ⟨v7, v8, rfl⟩ := hI
        have lb : ∀ p q : Int, p.natAbs < 2 ^ 3 → q.natAbs < 2 ^ 3 → ∀ d : Int, (QD.mkQ p q 1 : QD d).Bd 50 := fun p q h1 h2 d => (lit_bd h1 h2 (by decide)).mono (by omega)
        refine ⟨rfl, by simp, rfl, by simp, 2, rt2, _, _, _, _, _, su_eq 2 1 0 0 1 2 1, mb_lit (by decide) (by decide) (by decide) (by decide), lb _ _ (by decide) (by decide) 2, callW_fz rfl (ite_of (fun h => (not_tt su1 h).elim) (fun _ => ?_))⟩
        refine ⟨rfl, by simp, rfl, by simp, 2, rt2, _, _, _, _, _, su_eq 2 1 0 0 1 1 1, mb_lit (by decide) (by decide) (by decide) (by decide), lb _ _ (by decide) (by decide) 2, callW_fz rfl (ite_of (fun h => (not_ff su2 h).elim) (fun _ => ?_))⟩
        refine ⟨rfl, by simp, rfl, by simp, 2, rt2, _, _, _, _, _, su_eq 2 1 2 0 1 1 0, mb_lit (by decide) (by decide) (by decide) (by decide), lb _ _ (by decide) (by decide) 2, callW_fz rfl (ite_of (fun _ => ?_) (fun h => (is_tt su3 h).elim))⟩
        refine ⟨rfl, by simp, rfl, by simp, 2, rt2, _, _, _, _, _, su_eq 2 1 3 0 1 1 0, mb_lit (by decide) (by decide) (by decide) (by decide), lb _ _ (by decide) (by decide) 2, callW_fz rfl (ite_of (fun _ => ?_) (fun h => (is_ff su4 h).elim))⟩
        refine ⟨rfl, by simp, rfl, by simp, rfl, by simp, 3, rt3, _, _, _, _, _, su_eq2 3 0 1 (-1) 0, mb_lit (by decide) (by decide) (by decide) (by decide), ?_, fz_ne, ?_⟩
        · obtain ⟨_, a1, a2, a3⟩ := L_lit (d := 3) (p := 5) (q := 0) (s := 2) (by decide) (by decide)
          exact (QD.Bd.mono (m := 3) ⟨by rw [a1]; decide, by rw [a2]; decide, by rw [a3]; decide⟩ (by omega))
        · exact cast (congrArg (fun b => Q (.bool b)) (decide_eq_true su5)).symm k
  exact ⟨d, hr, gr, rfl, gb.mono (by omega), fun _ => ⟨fz_ne, rest _ g0 gb⟩, fun _ => ⟨fz_ne, rest _ (fun e => g0 (by have : gr = - -gr := by grind
                                                                                                                      rw [this, e]; grind)) gb.neg⟩⟩
end Mi

set_option Elab.async false
set_option linter.all false
set_option maxRecDepth 100000
/-! From what the top has written to the defs' promises. -/
namespace Mi
open PySem PySem.Spec PyProof.Rows L2
/-- the def x of the text st lies in K -/
def DefAt (K : PySem.W.Frag) (x : Str) (st : Stmt) : Prop :=
  ∃ (f : Addr) (oc : Value) (od : Option Addr) (kV dc pm : Value) (an : Option Addr) (cd ct : Value) (sl : Array (Option Value)),
    PySem.W.nsIn K mainGlobals x = some (some (.ref f)) ∧ K.lookup f = some ⟨oc, od, .func (PySem.W.fnOf x x (defArgs st) (defBody st) (defScope st) .none kV dc pm an cd ct), sl⟩ ∧ PySem.W.codeIn K cd x = true ∧ PySem.W.keepIn K (.ref f) = true
theorem Cal.imp {P : Program} {w : World} {K : PySem.W.Frag} {mg : Str → Option Value} {base : Heap} {k : Nat} {x : Str} {n : Nat} {φ φ' : Spc} (c : Cal P w K mg base k x n φ) (h : ∀ ds Q, φ' ds Q → φ ds Q) : Cal P w K mg base k x n φ' := by
  obtain ⟨f, fd, ps, a, b, d, e⟩ := c
  exact ⟨f, fd, ps, a, b, d, e.imp fun vs H Q E ⟨h1, G, ds, h2, h3, h4, h5⟩ => ⟨h1, G, ds, h2, h3, h4, h _ _ h5⟩⟩
theorem DefAt.mk {K : PySem.W.Frag} {x : Str} {st : Stmt} {f : Addr} {oc : Value} {od : Option Addr} {kV dc pm : Value} {an : Option Addr} {cd ct : Value} {sl : Array (Option Value)}
    (a : PySem.W.nsIn K mainGlobals x = some (some (.ref f))) (l : K.lookup f = some ⟨oc, od, .func (PySem.W.fnOf x x (defArgs st) (defBody st) (defScope st) .none kV dc pm an cd ct), sl⟩) (c : PySem.W.codeIn K cd x = true) (k : PySem.W.keepIn K (.ref f) = true) : DefAt K x st :=
  ⟨f, oc, od, kV, dc, pm, an, cd, ct, sl, a, l, c, k⟩
theorem mk_cal {P : Program} {w : World} {K : PySem.W.Frag} {mg : Str → Option Value} {base h : Heap} {k : Nat} {x : Str} {st : Stmt} {ps : List Str} {c : Cs} {m : Ss} {φs : List Spc} {cs : List PyData} {φ : Spc} {n : Nat}
    (D : DefAt K x st) (X : K.In h) (G : h.Ns mainGlobals mg) (S : FnScope c.N ps (defScope st)) (hc : toSs (toS c (defScope st) 100) (defBody st) = some m) (hps : ps.length = n)
    (hb : ∀ (kV doc pm : Value) (an : Option Addr) (cdv ct : Value) (us : List Value), us.length = ps.length → bindArgs (PySem.W.fnOf x x (defArgs st) (defBody st) (defScope st) .none kV doc pm an cdv ct) ⟨us, []⟩ = pure (ps.zip us))
    (hf : Cals P w K mg base k c.fn φs) (hn : Cons K mg c.cn cs) (hbl : ∀ x ∈ blts, mg x = none)
    (hw : ∀ ds Q, φ ds Q → wDef (FL φs) (CL cs) m c.N.length ds Q) : Cal P w K mg base (k + 1) x n φ := by
  obtain ⟨f, oc, od, kV, dc, pm, an, cd, ct, sl, a, l, cc, kp⟩ := D
  exact def_ok (fun_mk (st := st) l cc kp) S hc (PySem.W.mg_of X G a) hps hb hf hn hbl hw
theorem mk_law {P : Program} {w : World} {K : PySem.W.Frag} {mg : Str → Option Value} {h : Heap} {k : Nat} {x : Str} {st : Stmt} {fa : Addr} {c : Cs} {m : Ss} {φs : List Spc} {cs : List PyData}
    (D : DefAt K x st) (X : K.In h) (G : h.Ns mainGlobals mg) (hfa : mg x = some (.ref fa)) (S : FnScope c.N ["script"] (defScope st)) (hc : toSs (toS c (defScope st) 100) (defBody st) = some m)
    (hbt : ∀ (kV doc pm : Value) (an : Option Addr) (cdv ct : Value) (s : Shared) (v : Value), BindsTo s (PySem.W.fnOf x x (defArgs st) (defBody st) (defScope st) .none kV doc pm an cdv ct) ⟨[v], []⟩ [("script", v)])
    (hf : ∀ base : Heap, K.In base → base.Ns mainGlobals mg → Cals P w K mg base k c.fn φs) (hn : Cons K mg c.cn cs) (hbl : ∀ x ∈ blts, mg x = none)
    (hw : ∀ ds Q, φLaw ds Q → wDef (FL φs) (CL cs) m c.N.length ds Q) :
    ∃ fd : FuncData, (∀ (s : Shared) (v : Value), BindsTo s fd ⟨[v], []⟩ [("script", v)]) ∧ ∀ base : Heap, K.In base → base.Ns mainGlobals mg → FnG P w K mg base (k + 1) fa fd ["script"] (spLaw K) := by
  obtain ⟨f, oc, od, kV, dc, pm, an, cd, ct, sl, a, l, cc, kp⟩ := D
  have e := hfa.symm.trans (PySem.W.mg_of X G a)
  cases e
  exact ⟨_, fun s v => hbt _ _ _ _ _ _ s v, fun base h1 h2 => law_ok (def_fn (fun_mk (st := st) l cc kp) S hc (hf base h1 h2) hn hbl hw)⟩
theorem blts_of {K : PySem.W.Frag} {mg : Str → Option Value} {h : Heap} (X : K.In h) (G : h.Ns mainGlobals mg) (hz : ∀ x ∈ blts, PySem.W.nsIn K mainGlobals x = some none) : ∀ x ∈ blts, mg x = none := fun x hx => PySem.W.mg_none_of X G (hz x hx)
end Mi

set_option Elab.async false
set_option linter.all false
set_option maxRecDepth 100000
set_option maxHeartbeats 16000001
namespace Mi
open PySem PySem.Spec PyProof.Rows L2
def topS (i : Nat) : Stmt := PySem.Challenge.pw_likesheets_k47_measures_that_suit.main.body.getD i (.Pass ⟨0, 0, 0, 0⟩)
theorem t_law_draws : toSs (toS cs_law_draws (defScope (topS 20)) 100) (defBody (topS 20)) = some m_law_draws := by rfl
theorem s_law_draws : FnScope cs_law_draws.N ["script", "many"] (defScope (topS 20)) := ⟨rfl, rfl, rfl, by decide +kernel, rfl, by decide +kernel, by decide +kernel⟩
theorem t_law_root_v0 : toSs (toS cs_law_root_v0 (defScope (topS 30)) 100) (defBody (topS 30)) = some m_law_root_v0 := by rfl
theorem s_law_root_v0 : FnScope cs_law_root_v0.N ["digit"] (defScope (topS 30)) := ⟨rfl, rfl, rfl, by decide +kernel, rfl, by decide +kernel, by decide +kernel⟩
theorem t_law_gcd : toSs (toS cs_law_gcd (defScope (topS 21)) 100) (defBody (topS 21)) = some m_law_gcd := by rfl
theorem s_law_gcd : FnScope cs_law_gcd.N ["first", "second"] (defScope (topS 21)) := ⟨rfl, rfl, rfl, by decide +kernel, rfl, by decide +kernel, by decide +kernel⟩
theorem t_law_norm : toSs (toS cs_law_norm (defScope (topS 22)) 100) (defBody (topS 22)) = some m_law_norm := by rfl
theorem s_law_norm : FnScope cs_law_norm.N ["p", "q", "s"] (defScope (topS 22)) := ⟨rfl, rfl, rfl, by decide +kernel, rfl, by decide +kernel, by decide +kernel⟩
theorem t_law_number : toSs (toS cs_law_number (defScope (topS 31)) 100) (defBody (topS 31)) = some m_law_number := by rfl
theorem s_law_number : FnScope cs_law_number.N ["digits"] (defScope (topS 31)) := ⟨rfl, rfl, rfl, by decide +kernel, rfl, by decide +kernel, by decide +kernel⟩
theorem t_law_sign_v0 : toSs (toS cs_law_sign_v0 (defScope (topS 28)) 100) (defBody (topS 28)) = some m_law_sign_v0 := by rfl
theorem s_law_sign_v0 : FnScope cs_law_sign_v0.N ["root", "number"] (defScope (topS 28)) := ⟨rfl, rfl, rfl, by decide +kernel, rfl, by decide +kernel, by decide +kernel⟩
theorem t_law_above_v0 : toSs (toS cs_law_above_v0 (defScope (topS 32)) 100) (defBody (topS 32)) = some m_law_above_v0 := by rfl
theorem s_law_above_v0 : FnScope cs_law_above_v0.N ["root", "digits"] (defScope (topS 32)) := ⟨rfl, rfl, rfl, by decide +kernel, rfl, by decide +kernel, by decide +kernel⟩
theorem t_law_size : toSs (toS cs_law_size (defScope (topS 35)) 100) (defBody (topS 35)) = some m_law_size := by rfl
theorem s_law_size : FnScope cs_law_size.N ["root", "number"] (defScope (topS 35)) := ⟨rfl, rfl, rfl, by decide +kernel, rfl, by decide +kernel, by decide +kernel⟩
theorem t_common_divisor : toSs (toS cs_common_divisor (defScope (topS 1)) 100) (defBody (topS 1)) = some m_common_divisor := by rfl
theorem s_common_divisor : FnScope cs_common_divisor.N ["first", "second"] (defScope (topS 1)) := ⟨rfl, rfl, rfl, by decide +kernel, rfl, by decide +kernel, by decide +kernel⟩
theorem t_common_of_three : toSs (toS cs_common_of_three (defScope (topS 2)) 100) (defBody (topS 2)) = some m_common_of_three := by rfl
theorem s_common_of_three : FnScope cs_common_of_three.N ["p", "q", "s"] (defScope (topS 2)) := ⟨rfl, rfl, rfl, by decide +kernel, rfl, by decide +kernel, by decide +kernel⟩
theorem t_length : toSs (toS cs_length (defScope (topS 3)) 100) (defBody (topS 3)) = some m_length := by rfl
theorem s_length : FnScope cs_length.N ["p", "q", "s"] (defScope (topS 3)) := ⟨rfl, rfl, rfl, by decide +kernel, rfl, by decide +kernel, by decide +kernel⟩
theorem t_times : toSs (toS cs_times (defScope (topS 8)) 100) (defBody (topS 8)) = some m_times := by rfl
theorem s_times : FnScope cs_times.N ["root", "first", "second"] (defScope (topS 8)) := ⟨rfl, rfl, rfl, by decide +kernel, rfl, by decide +kernel, by decide +kernel⟩
theorem t_plus : toSs (toS cs_plus (defScope (topS 5)) 100) (defBody (topS 5)) = some m_plus := by rfl
theorem s_plus : FnScope cs_plus.N ["first", "second"] (defScope (topS 5)) := ⟨rfl, rfl, rfl, by decide +kernel, rfl, by decide +kernel, by decide +kernel⟩
theorem t_twin : toSs (toS cs_twin (defScope (topS 9)) 100) (defBody (topS 9)) = some m_twin := by rfl
theorem s_twin : FnScope cs_twin.N ["number"] (defScope (topS 9)) := ⟨rfl, rfl, rfl, by decide +kernel, rfl, by decide +kernel, by decide +kernel⟩
theorem t_form_of : toSs (toS cs_form_of (defScope (topS 16)) 100) (defBody (topS 16)) = some m_form_of := by rfl
theorem s_form_of : FnScope cs_form_of.N ["root", "measure", "r"] (defScope (topS 16)) := ⟨rfl, rfl, rfl, by decide +kernel, rfl, by decide +kernel, by decide +kernel⟩
theorem t_turned_form_of : toSs (toS cs_turned_form_of (defScope (topS 17)) 100) (defBody (topS 17)) = some m_turned_form_of := by rfl
theorem s_turned_form_of : FnScope cs_turned_form_of.N ["root", "measure", "r"] (defScope (topS 17)) := ⟨rfl, rfl, rfl, by decide +kernel, rfl, by decide +kernel, by decide +kernel⟩
theorem t_whole : toSs (toS cs_whole (defScope (topS 4)) 100) (defBody (topS 4)) = some m_whole := by rfl
theorem s_whole : FnScope cs_whole.N ["p"] (defScope (topS 4)) := ⟨rfl, rfl, rfl, by decide +kernel, rfl, by decide +kernel, by decide +kernel⟩
theorem t_sign_of_number : toSs (toS cs_sign_of_number (defScope (topS 11)) 100) (defBody (topS 11)) = some m_sign_of_number := by rfl
theorem s_sign_of_number : FnScope cs_sign_of_number.N ["number"] (defScope (topS 11)) := ⟨rfl, rfl, rfl, by decide +kernel, rfl, by decide +kernel, by decide +kernel⟩
theorem t_sign_of : toSs (toS cs_sign_of (defScope (topS 12)) 100) (defBody (topS 12)) = some m_sign_of := by rfl
theorem s_sign_of : FnScope cs_sign_of.N ["root", "number"] (defScope (topS 12)) := ⟨rfl, rfl, rfl, by decide +kernel, rfl, by decide +kernel, by decide +kernel⟩
theorem t_negative : toSs (toS cs_negative (defScope (topS 6)) 100) (defBody (topS 6)) = some m_negative := by rfl
theorem s_negative : FnScope cs_negative.N ["number"] (defScope (topS 6)) := ⟨rfl, rfl, rfl, by decide +kernel, rfl, by decide +kernel, by decide +kernel⟩
theorem t_minus : toSs (toS cs_minus (defScope (topS 7)) 100) (defBody (topS 7)) = some m_minus := by rfl
theorem s_minus : FnScope cs_minus.N ["first", "second"] (defScope (topS 7)) := ⟨rfl, rfl, rfl, by decide +kernel, rfl, by decide +kernel, by decide +kernel⟩
theorem t_compare : toSs (toS cs_compare (defScope (topS 13)) 100) (defBody (topS 13)) = some m_compare := by rfl
theorem s_compare : FnScope cs_compare.N ["root", "first", "second"] (defScope (topS 13)) := ⟨rfl, rfl, rfl, by decide +kernel, rfl, by decide +kernel, by decide +kernel⟩
theorem t_is_never_below : toSs (toS cs_is_never_below (defScope (topS 15)) 100) (defBody (topS 15)) = some m_is_never_below := by rfl
theorem s_is_never_below : FnScope cs_is_never_below.N ["root", "first", "middle", "last"] (defScope (topS 15)) := ⟨rfl, rfl, rfl, by decide +kernel, rfl, by decide +kernel, by decide +kernel⟩
theorem t_suits : toSs (toS cs_suits (defScope (topS 18)) 100) (defBody (topS 18)) = some m_suits := by rfl
theorem s_suits : FnScope cs_suits.N ["root", "measure", "r"] (defScope (topS 18)) := ⟨rfl, rfl, rfl, by decide +kernel, rfl, by decide +kernel, by decide +kernel⟩
theorem t_law_add : toSs (toS cs_law_add (defScope (topS 23)) 100) (defBody (topS 23)) = some m_law_add := by rfl
theorem s_law_add : FnScope cs_law_add.N ["first", "second"] (defScope (topS 23)) := ⟨rfl, rfl, rfl, by decide +kernel, rfl, by decide +kernel, by decide +kernel⟩
theorem t_law_minus_v0 : toSs (toS cs_law_minus_v0 (defScope (topS 24)) 100) (defBody (topS 24)) = some m_law_minus_v0 := by rfl
theorem s_law_minus_v0 : FnScope cs_law_minus_v0.N ["first", "second"] (defScope (topS 24)) := ⟨rfl, rfl, rfl, by decide +kernel, rfl, by decide +kernel, by decide +kernel⟩
theorem t_law_times_v0 : toSs (toS cs_law_times_v0 (defScope (topS 25)) 100) (defBody (topS 25)) = some m_law_times_v0 := by rfl
theorem s_law_times_v0 : FnScope cs_law_times_v0.N ["root", "first", "second"] (defScope (topS 25)) := ⟨rfl, rfl, rfl, by decide +kernel, rfl, by decide +kernel, by decide +kernel⟩
theorem t_law_by : toSs (toS cs_law_by (defScope (topS 26)) 100) (defBody (topS 26)) = some m_law_by := by rfl
theorem s_law_by : FnScope cs_law_by.N ["root", "first", "second"] (defScope (topS 26)) := ⟨rfl, rfl, rfl, by decide +kernel, rfl, by decide +kernel, by decide +kernel⟩
theorem t_law_twin : toSs (toS cs_law_twin (defScope (topS 27)) 100) (defBody (topS 27)) = some m_law_twin := by rfl
theorem s_law_twin : FnScope cs_law_twin.N ["number"] (defScope (topS 27)) := ⟨rfl, rfl, rfl, by decide +kernel, rfl, by decide +kernel, by decide +kernel⟩
theorem t_law_drawn_measures : toSs (toS cs_law_drawn_measures (defScope (topS 36)) 100) (defBody (topS 36)) = some m_law_drawn_measures := by rfl
theorem s_law_drawn_measures : FnScope cs_law_drawn_measures.N ["root", "r", "digits"] (defScope (topS 36)) := ⟨rfl, rfl, rfl, by decide +kernel, rfl, by decide +kernel, by decide +kernel⟩
theorem t_law_forms : toSs (toS cs_law_forms (defScope (topS 33)) 100) (defBody (topS 33)) = some m_law_forms := by rfl
theorem s_law_forms : FnScope cs_law_forms.N ["root", "measure", "r"] (defScope (topS 33)) := ⟨rfl, rfl, rfl, by decide +kernel, rfl, by decide +kernel, by decide +kernel⟩
theorem t_law_less_v0 : toSs (toS cs_law_less_v0 (defScope (topS 29)) 100) (defBody (topS 29)) = some m_law_less_v0 := by rfl
theorem s_law_less_v0 : FnScope cs_law_less_v0.N ["root", "first", "second"] (defScope (topS 29)) := ⟨rfl, rfl, rfl, by decide +kernel, rfl, by decide +kernel, by decide +kernel⟩
theorem t_law_suits : toSs (toS cs_law_suits (defScope (topS 34)) 100) (defBody (topS 34)) = some m_law_suits := by rfl
theorem s_law_suits : FnScope cs_law_suits.N ["root", "measure", "r"] (defScope (topS 34)) := ⟨rfl, rfl, rfl, by decide +kernel, rfl, by decide +kernel, by decide +kernel⟩
theorem t_law_told_v0 : toSs (toS cs_law_told_v0 (defScope (topS 37)) 100) (defBody (topS 37)) = some m_law_told_v0 := by rfl
theorem s_law_told_v0 : FnScope cs_law_told_v0.N ["root", "measure", "r"] (defScope (topS 37)) := ⟨rfl, rfl, rfl, by decide +kernel, rfl, by decide +kernel, by decide +kernel⟩
theorem t_law_v1 : toSs (toS cs_law_v1 (defScope (topS 38)) 100) (defBody (topS 38)) = some m_law_v1 := by rfl
theorem s_law_v1 : FnScope cs_law_v1.N ["script"] (defScope (topS 38)) := ⟨rfl, rfl, rfl, by decide +kernel, rfl, by decide +kernel, by decide +kernel⟩
theorem all_defs {P : Program} {w : World} {K : PySem.W.Frag} {mg : Str → Option Value} {h : Heap} {fa : Addr} (X : K.In h) (G : h.Ns mainGlobals mg) (hfa : mg "law" = some (.ref fa)) (d_law_draws : DefAt K "_law_draws" (topS 20)) (d_law_root_v0 : DefAt K "_law_root" (topS 30)) (d_law_gcd : DefAt K "_law_gcd" (topS 21)) (d_law_norm : DefAt K "_law_norm" (topS 22)) (d_law_number : DefAt K "_law_number" (topS 31)) (d_law_sign_v0 : DefAt K "_law_sign" (topS 28)) (d_law_above_v0 : DefAt K "_law_above" (topS 32)) (d_law_size : DefAt K "_law_size" (topS 35)) (d_common_divisor : DefAt K "common_divisor" (topS 1)) (d_common_of_three : DefAt K "common_of_three" (topS 2)) (d_length : DefAt K "length" (topS 3)) (d_times : DefAt K "times" (topS 8)) (d_plus : DefAt K "plus" (topS 5)) (d_twin : DefAt K "twin" (topS 9)) (d_form_of : DefAt K "form_of" (topS 16)) (d_turned_form_of : DefAt K "turned_form_of" (topS 17)) (d_whole : DefAt K "whole" (topS 4)) (d_sign_of_number : DefAt K "sign_of_number" (topS 11)) (d_sign_of : DefAt K "sign_of" (topS 12)) (d_negative : DefAt K "negative" (topS 6)) (d_minus : DefAt K "minus" (topS 7)) (d_compare : DefAt K "compare" (topS 13)) (d_is_never_below : DefAt K "is_never_below" (topS 15)) (d_suits : DefAt K "suits" (topS 18)) (d_law_add : DefAt K "_law_add" (topS 23)) (d_law_minus_v0 : DefAt K "_law_minus" (topS 24)) (d_law_times_v0 : DefAt K "_law_times" (topS 25)) (d_law_by : DefAt K "_law_by" (topS 26)) (d_law_twin : DefAt K "_law_twin" (topS 27)) (d_law_drawn_measures : DefAt K "_law_drawn_measures" (topS 36)) (d_law_forms : DefAt K "_law_forms" (topS 33)) (d_law_less_v0 : DefAt K "_law_less" (topS 29)) (d_law_suits : DefAt K "_law_suits" (topS 34)) (d_law_told_v0 : DefAt K "_law_told" (topS 37)) (d_law_v1 : DefAt K "law" (topS 38))
    (hz : ∀ x ∈ blts, PySem.W.nsIn K mainGlobals x = some none) : ∃ fd : FuncData, (∀ (s : Shared) (v : Value), BindsTo s fd ⟨[v], []⟩ [("script", v)]) ∧ ∀ base : Heap, K.In base → base.Ns mainGlobals mg → FnG P w K mg base 10 fa fd ["script"] (spLaw K) := by
  have bl := blts_of X G hz
  refine mk_law d_law_v1 X G hfa s_law_v1 t_law_v1 (fun _ _ _ _ _ _ s v => .of_eq rfl) (fun base b1 b2 => ?_) .nil bl (c_law_v1 _)
  have a_law_draws : Cal P w K mg base 1 "_law_draws" 2 φ_law_draws := mk_cal (k := 0) d_law_draws X G s_law_draws t_law_draws rfl (fun _ _ _ _ _ _ us hl => match us, hl with | [_, _], _ => rfl) .nil .nil bl (c_law_draws _)
  have a_law_root_v0 : Cal P w K mg base 1 "_law_root" 1 φ_law_root := mk_cal (k := 0) d_law_root_v0 X G s_law_root_v0 t_law_root_v0 rfl (fun _ _ _ _ _ _ us hl => match us, hl with | [_], _ => rfl) .nil .nil bl (c_law_root_v0 _)
  have a_law_gcd : Cal P w K mg base 1 "_law_gcd" 2 φ_law_gcd := mk_cal (k := 0) d_law_gcd X G s_law_gcd t_law_gcd rfl (fun _ _ _ _ _ _ us hl => match us, hl with | [_, _], _ => rfl) .nil .nil bl (c_law_gcd _)
  have a_law_norm : Cal P w K mg base 2 "_law_norm" 3 φ_length := mk_cal (k := 1) d_law_norm X G s_law_norm t_law_norm rfl (fun _ _ _ _ _ _ us hl => match us, hl with | [_, _, _], _ => rfl) (.cons M_law_gcd (a_law_gcd.mono (by decide)) .nil) .nil bl (c_law_norm _)
  have a_law_number : Cal P w K mg base 3 "_law_number" 1 φ_law_number := mk_cal (k := 2) d_law_number X G s_law_number t_law_number rfl (fun _ _ _ _ _ _ us hl => match us, hl with | [_], _ => rfl) (.cons M_length (a_law_norm.mono (by decide)) .nil) .nil bl (c_law_number _)
  have a_law_sign_v0 : Cal P w K mg base 1 "_law_sign" 2 φ_sign_of := mk_cal (k := 0) d_law_sign_v0 X G s_law_sign_v0 t_law_sign_v0 rfl (fun _ _ _ _ _ _ us hl => match us, hl with | [_, _], _ => rfl) .nil .nil bl (c_law_sign_v0 _)
  have a_law_above_v0 : Cal P w K mg base 4 "_law_above" 2 φ_law_above := mk_cal (k := 3) d_law_above_v0 X G s_law_above_v0 t_law_above_v0 rfl (fun _ _ _ _ _ _ us hl => match us, hl with | [_, _], _ => rfl) (.cons M_law_number (a_law_number.mono (by decide)) (.cons M_sign_of (a_law_sign_v0.mono (by decide)) .nil)) .nil bl (c_law_above_v0 _)
  have a_law_size : Cal P w K mg base 2 "_law_size" 2 φ_law_size := mk_cal (k := 1) d_law_size X G s_law_size t_law_size rfl (fun _ _ _ _ _ _ us hl => match us, hl with | [_, _], _ => rfl) (.cons M_sign_of (a_law_sign_v0.mono (by decide)) .nil) .nil bl (c_law_size _)
  have a_common_divisor : Cal P w K mg base 1 "common_divisor" 2 φ_common_divisor := mk_cal (k := 0) d_common_divisor X G s_common_divisor t_common_divisor rfl (fun _ _ _ _ _ _ us hl => match us, hl with | [_, _], _ => rfl) .nil .nil bl (c_common_divisor _)
  have a_common_of_three : Cal P w K mg base 2 "common_of_three" 3 φ_common_of_three := mk_cal (k := 1) d_common_of_three X G s_common_of_three t_common_of_three rfl (fun _ _ _ _ _ _ us hl => match us, hl with | [_, _, _], _ => rfl) (.cons M_common_divisor (a_common_divisor.mono (by decide)) .nil) .nil bl (c_common_of_three _)
  have a_length : Cal P w K mg base 3 "length" 3 φ_length := mk_cal (k := 2) d_length X G s_length t_length rfl (fun _ _ _ _ _ _ us hl => match us, hl with | [_, _, _], _ => rfl) (.cons M_common_of_three (a_common_of_three.mono (by decide)) .nil) .nil bl (c_length _)
  have a_times : Cal P w K mg base 4 "times" 3 φ_times := mk_cal (k := 3) d_times X G s_times t_times rfl (fun _ _ _ _ _ _ us hl => match us, hl with | [_, _, _], _ => rfl) (.cons M_length (a_length.mono (by decide)) .nil) .nil bl (c_times _)
  have a_plus : Cal P w K mg base 4 "plus" 2 φ_plus := mk_cal (k := 3) d_plus X G s_plus t_plus rfl (fun _ _ _ _ _ _ us hl => match us, hl with | [_, _], _ => rfl) (.cons M_length (a_length.mono (by decide)) .nil) .nil bl (c_plus _)
  have a_twin : Cal P w K mg base 1 "twin" 1 φ_twin := mk_cal (k := 0) d_twin X G s_twin t_twin rfl (fun _ _ _ _ _ _ us hl => match us, hl with | [_], _ => rfl) .nil .nil bl (c_twin _)
  have a_form_of : Cal P w K mg base 5 "form_of" 3 φ_form_of := mk_cal (k := 4) d_form_of X G s_form_of t_form_of rfl (fun _ _ _ _ _ _ us hl => match us, hl with | [_, _, _], _ => rfl) (.cons M_times (a_times.mono (by decide)) (.cons M_plus (a_plus.mono (by decide)) (.cons M_twin (a_twin.mono (by decide)) .nil))) .nil bl (c_form_of _)
  have a_turned_form_of : Cal P w K mg base 5 "turned_form_of" 3 φ_turned_form_of := mk_cal (k := 4) d_turned_form_of X G s_turned_form_of t_turned_form_of rfl (fun _ _ _ _ _ _ us hl => match us, hl with | [_, _, _], _ => rfl) (.cons M_times (a_times.mono (by decide)) (.cons M_plus (a_plus.mono (by decide)) (.cons M_twin (a_twin.mono (by decide)) .nil))) .nil bl (c_turned_form_of _)
  have a_whole : Cal P w K mg base 1 "whole" 1 φ_whole := mk_cal (k := 0) d_whole X G s_whole t_whole rfl (fun _ _ _ _ _ _ us hl => match us, hl with | [_], _ => rfl) .nil .nil bl (c_whole _)
  have a_sign_of_number : Cal P w K mg base 1 "sign_of_number" 1 φ_sign_of_number := mk_cal (k := 0) d_sign_of_number X G s_sign_of_number t_sign_of_number rfl (fun _ _ _ _ _ _ us hl => match us, hl with | [_], _ => rfl) .nil .nil bl (c_sign_of_number _)
  have a_sign_of : Cal P w K mg base 2 "sign_of" 2 φ_sign_of := mk_cal (k := 1) d_sign_of X G s_sign_of t_sign_of rfl (fun _ _ _ _ _ _ us hl => match us, hl with | [_, _], _ => rfl) (.cons M_sign_of_number (a_sign_of_number.mono (by decide)) .nil) .nil bl (c_sign_of _)
  have a_negative : Cal P w K mg base 1 "negative" 1 φ_negative := mk_cal (k := 0) d_negative X G s_negative t_negative rfl (fun _ _ _ _ _ _ us hl => match us, hl with | [_], _ => rfl) .nil .nil bl (c_negative _)
  have a_minus : Cal P w K mg base 5 "minus" 2 φ_minus := mk_cal (k := 4) d_minus X G s_minus t_minus rfl (fun _ _ _ _ _ _ us hl => match us, hl with | [_, _], _ => rfl) (.cons M_plus (a_plus.mono (by decide)) (.cons M_negative (a_negative.mono (by decide)) .nil)) .nil bl (c_minus _)
  have a_compare : Cal P w K mg base 6 "compare" 3 φ_compare := mk_cal (k := 5) d_compare X G s_compare t_compare rfl (fun _ _ _ _ _ _ us hl => match us, hl with | [_, _, _], _ => rfl) (.cons M_sign_of (a_sign_of.mono (by decide)) (.cons M_minus (a_minus.mono (by decide)) .nil)) .nil bl (c_compare _)
  have a_is_never_below : Cal P w K mg base 7 "is_never_below" 4 φ_is_never_below := mk_cal (k := 6) d_is_never_below X G s_is_never_below t_is_never_below rfl (fun _ _ _ _ _ _ us hl => match us, hl with | [_, _, _, _], _ => rfl) (.cons M_times (a_times.mono (by decide)) (.cons M_whole (a_whole.mono (by decide)) (.cons M_compare (a_compare.mono (by decide)) (.cons M_sign_of (a_sign_of.mono (by decide)) .nil)))) .nil bl (c_is_never_below _)
  have a_suits : Cal P w K mg base 8 "suits" 3 φ_suits := mk_cal (k := 7) d_suits X G s_suits t_suits rfl (fun _ _ _ _ _ _ us hl => match us, hl with | [_, _, _], _ => rfl) (.cons M_form_of (a_form_of.mono (by decide)) (.cons M_turned_form_of (a_turned_form_of.mono (by decide)) (.cons M_is_never_below (a_is_never_below.mono (by decide)) .nil))) .nil bl (c_suits _)
  have a_law_add : Cal P w K mg base 3 "_law_add" 2 φ_plus := mk_cal (k := 2) d_law_add X G s_law_add t_law_add rfl (fun _ _ _ _ _ _ us hl => match us, hl with | [_, _], _ => rfl) (.cons M_length (a_law_norm.mono (by decide)) .nil) .nil bl (c_law_add _)
  have a_law_minus_v0 : Cal P w K mg base 4 "_law_minus" 2 φ_minus := mk_cal (k := 3) d_law_minus_v0 X G s_law_minus_v0 t_law_minus_v0 rfl (fun _ _ _ _ _ _ us hl => match us, hl with | [_, _], _ => rfl) (.cons M_plus (a_law_add.mono (by decide)) .nil) .nil bl (c_law_minus_v0 _)
  have a_law_times_v0 : Cal P w K mg base 3 "_law_times" 3 φ_timesR := mk_cal (k := 2) d_law_times_v0 X G s_law_times_v0 t_law_times_v0 rfl (fun _ _ _ _ _ _ us hl => match us, hl with | [_, _, _], _ => rfl) (.cons M_length (a_law_norm.mono (by decide)) .nil) .nil bl (c_law_timesR _)
  have a_law_by : Cal P w K mg base 4 "_law_by" 3 φ_over := mk_cal (k := 3) d_law_by X G s_law_by t_law_by rfl (fun _ _ _ _ _ _ us hl => match us, hl with | [_, _, _], _ => rfl) (.cons M_times ((a_law_times_v0.mono (by decide)).imp times_timesR) (.cons M_length (a_law_norm.mono (by decide)) .nil)) .nil bl (c_law_by _)
  have a_law_twin : Cal P w K mg base 1 "_law_twin" 1 φ_twin := mk_cal (k := 0) d_law_twin X G s_law_twin t_law_twin rfl (fun _ _ _ _ _ _ us hl => match us, hl with | [_], _ => rfl) .nil .nil bl (c_law_twin _)
  have a_law_drawn_measures : Cal P w K mg base 5 "_law_drawn_measures" 3 φ_ldm := mk_cal (k := 4) d_law_drawn_measures X G s_law_drawn_measures t_law_drawn_measures rfl (fun _ _ _ _ _ _ us hl => match us, hl with | [_, _, _], _ => rfl) (.cons M_law_above (a_law_above_v0.mono (by decide)) (.cons M_law_size (a_law_size.mono (by decide)) (.cons M_minus (a_law_minus_v0.mono (by decide)) (.cons M_sign_of (a_law_sign_v0.mono (by decide)) (.cons M_timesR (a_law_times_v0.mono (by decide)) (.cons M_over (a_law_by.mono (by decide)) (.cons M_law_number (a_law_number.mono (by decide)) (.cons M_twin (a_law_twin.mono (by decide)) .nil)))))))) .nil bl (c_law_drawn_measures _)
  have a_law_forms : Cal P w K mg base 4 "_law_forms" 3 φ_law_forms := mk_cal (k := 3) d_law_forms X G s_law_forms t_law_forms rfl (fun _ _ _ _ _ _ us hl => match us, hl with | [_, _, _], _ => rfl) (.cons M_twin (a_law_twin.mono (by decide)) (.cons M_times ((a_law_times_v0.mono (by decide)).imp times_timesR) (.cons M_plus (a_law_add.mono (by decide)) .nil))) .nil bl (c_law_forms _)
  have a_law_less_v0 : Cal P w K mg base 5 "_law_less" 3 φ_law_less := mk_cal (k := 4) d_law_less_v0 X G s_law_less_v0 t_law_less_v0 rfl (fun _ _ _ _ _ _ us hl => match us, hl with | [_, _, _], _ => rfl) (.cons M_sign_of (a_law_sign_v0.mono (by decide)) (.cons M_minus (a_law_minus_v0.mono (by decide)) .nil)) .nil bl (c_law_less_v0 _)
  have a_law_suits : Cal P w K mg base 6 "_law_suits" 3 φ_suits := mk_cal (k := 5) d_law_suits X G s_law_suits t_law_suits rfl (fun _ _ _ _ _ _ us hl => match us, hl with | [_, _, _], _ => rfl) (.cons M_law_forms (a_law_forms.mono (by decide)) (.cons M_times ((a_law_times_v0.mono (by decide)).imp times_timesR) (.cons M_law_less (a_law_less_v0.mono (by decide)) (.cons M_sign_of (a_law_sign_v0.mono (by decide)) .nil)))) .nil bl (c_law_suits _)
  have a_law_told_v0 : Cal P w K mg base 9 "_law_told" 3 φ_told47 := mk_cal (k := 8) d_law_told_v0 X G s_law_told_v0 t_law_told_v0 rfl (fun _ _ _ _ _ _ us hl => match us, hl with | [_, _, _], _ => rfl) (.cons M_suits (a_law_suits.mono (by decide)) (.cons M_suits (a_suits.mono (by decide)) (.cons M_over (a_law_by.mono (by decide)) .nil))) .nil bl (c_law_told_v0 _)
  exact (.cons M_law_draws (a_law_draws.mono (by decide)) (.cons M_law_root (a_law_root_v0.mono (by decide)) (.cons M_law_above (a_law_above_v0.mono (by decide)) (.cons M_law_size (a_law_size.mono (by decide)) (.cons M_length (a_law_norm.mono (by decide)) (.cons M_suits (a_suits.mono (by decide)) (.cons M_ldm (a_law_drawn_measures.mono (by decide)) (.cons M_told47 (a_law_told_v0.mono (by decide)) .nil))))))))
end Mi
open PySem PySem.W PyProof.Rows
set_option maxHeartbeats 0 in
theorem PySem.Challenge.cw_likesheets_k47_measures_that_suit_holds : PySem.Challenge.rw_likesheets_k47_measures_that_suit.Holds := by
  w_on; o_law; k_head; (case hw => w_witness2)
  k_fill
  refine Mi.walk_go (l := PySem.Challenge.rw_likesheets_k47_measures_that_suit) (n := 63) (k := 10) (x := "script") (sp := fun K => Mi.spLaw K) rfl (by decide) rfl ⟨rfl, by decide, by decide⟩ (fun w h Y => PySem.W.kIn_of Y) ?F (fun K H a ns hl hS => ⟨a, ns, rfl, hS, hl, fun _ => rfl⟩)
  case F =>
    intro w mg fa h KX G hmg
    refine' Mi.all_defs KX G hmg ?d0 ?d1 ?d2 ?d3 ?d4 ?d5 ?d6 ?d7 ?d8 ?d9 ?d10 ?d11 ?d12 ?d13 ?d14 ?d15 ?d16 ?d17 ?d18 ?d19 ?d20 ?d21 ?d22 ?d23 ?d24 ?d25 ?d26 ?d27 ?d28 ?d29 ?d30 ?d31 ?d32 ?d33 ?d34 ?hz
    (case d0 => refine' Mi.DefAt.mk ?a ?l ?c ?k; (case a => k_is); (case l => k_is); (case c => k_is); (case k => k_is))
    (case d1 => refine' Mi.DefAt.mk ?a ?l ?c ?k; (case a => k_is); (case l => k_is); (case c => k_is); (case k => k_is))
    (case d2 => refine' Mi.DefAt.mk ?a ?l ?c ?k; (case a => k_is); (case l => k_is); (case c => k_is); (case k => k_is))
    (case d3 => refine' Mi.DefAt.mk ?a ?l ?c ?k; (case a => k_is); (case l => k_is); (case c => k_is); (case k => k_is))
    (case d4 => refine' Mi.DefAt.mk ?a ?l ?c ?k; (case a => k_is); (case l => k_is); (case c => k_is); (case k => k_is))
    (case d5 => refine' Mi.DefAt.mk ?a ?l ?c ?k; (case a => k_is); (case l => k_is); (case c => k_is); (case k => k_is))
    (case d6 => refine' Mi.DefAt.mk ?a ?l ?c ?k; (case a => k_is); (case l => k_is); (case c => k_is); (case k => k_is))
    (case d7 => refine' Mi.DefAt.mk ?a ?l ?c ?k; (case a => k_is); (case l => k_is); (case c => k_is); (case k => k_is))
    (case d8 => refine' Mi.DefAt.mk ?a ?l ?c ?k; (case a => k_is); (case l => k_is); (case c => k_is); (case k => k_is))
    (case d9 => refine' Mi.DefAt.mk ?a ?l ?c ?k; (case a => k_is); (case l => k_is); (case c => k_is); (case k => k_is))
    (case d10 => refine' Mi.DefAt.mk ?a ?l ?c ?k; (case a => k_is); (case l => k_is); (case c => k_is); (case k => k_is))
    (case d11 => refine' Mi.DefAt.mk ?a ?l ?c ?k; (case a => k_is); (case l => k_is); (case c => k_is); (case k => k_is))
    (case d12 => refine' Mi.DefAt.mk ?a ?l ?c ?k; (case a => k_is); (case l => k_is); (case c => k_is); (case k => k_is))
    (case d13 => refine' Mi.DefAt.mk ?a ?l ?c ?k; (case a => k_is); (case l => k_is); (case c => k_is); (case k => k_is))
    (case d14 => refine' Mi.DefAt.mk ?a ?l ?c ?k; (case a => k_is); (case l => k_is); (case c => k_is); (case k => k_is))
    (case d15 => refine' Mi.DefAt.mk ?a ?l ?c ?k; (case a => k_is); (case l => k_is); (case c => k_is); (case k => k_is))
    (case d16 => refine' Mi.DefAt.mk ?a ?l ?c ?k; (case a => k_is); (case l => k_is); (case c => k_is); (case k => k_is))
    (case d17 => refine' Mi.DefAt.mk ?a ?l ?c ?k; (case a => k_is); (case l => k_is); (case c => k_is); (case k => k_is))
    (case d18 => refine' Mi.DefAt.mk ?a ?l ?c ?k; (case a => k_is); (case l => k_is); (case c => k_is); (case k => k_is))
    (case d19 => refine' Mi.DefAt.mk ?a ?l ?c ?k; (case a => k_is); (case l => k_is); (case c => k_is); (case k => k_is))
    (case d20 => refine' Mi.DefAt.mk ?a ?l ?c ?k; (case a => k_is); (case l => k_is); (case c => k_is); (case k => k_is))
    (case d21 => refine' Mi.DefAt.mk ?a ?l ?c ?k; (case a => k_is); (case l => k_is); (case c => k_is); (case k => k_is))
    (case d22 => refine' Mi.DefAt.mk ?a ?l ?c ?k; (case a => k_is); (case l => k_is); (case c => k_is); (case k => k_is))
    (case d23 => refine' Mi.DefAt.mk ?a ?l ?c ?k; (case a => k_is); (case l => k_is); (case c => k_is); (case k => k_is))
    (case d24 => refine' Mi.DefAt.mk ?a ?l ?c ?k; (case a => k_is); (case l => k_is); (case c => k_is); (case k => k_is))
    (case d25 => refine' Mi.DefAt.mk ?a ?l ?c ?k; (case a => k_is); (case l => k_is); (case c => k_is); (case k => k_is))
    (case d26 => refine' Mi.DefAt.mk ?a ?l ?c ?k; (case a => k_is); (case l => k_is); (case c => k_is); (case k => k_is))
    (case d27 => refine' Mi.DefAt.mk ?a ?l ?c ?k; (case a => k_is); (case l => k_is); (case c => k_is); (case k => k_is))
    (case d28 => refine' Mi.DefAt.mk ?a ?l ?c ?k; (case a => k_is); (case l => k_is); (case c => k_is); (case k => k_is))
    (case d29 => refine' Mi.DefAt.mk ?a ?l ?c ?k; (case a => k_is); (case l => k_is); (case c => k_is); (case k => k_is))
    (case d30 => refine' Mi.DefAt.mk ?a ?l ?c ?k; (case a => k_is); (case l => k_is); (case c => k_is); (case k => k_is))
    (case d31 => refine' Mi.DefAt.mk ?a ?l ?c ?k; (case a => k_is); (case l => k_is); (case c => k_is); (case k => k_is))
    (case d32 => refine' Mi.DefAt.mk ?a ?l ?c ?k; (case a => k_is); (case l => k_is); (case c => k_is); (case k => k_is))
    (case d33 => refine' Mi.DefAt.mk ?a ?l ?c ?k; (case a => k_is); (case l => k_is); (case c => k_is); (case k => k_is))
    (case d34 => refine' Mi.DefAt.mk ?a ?l ?c ?k; (case a => k_is); (case l => k_is); (case c => k_is); (case k => k_is))
    (case hz => intro x hx; simp only [Mi.blts, List.mem_cons, List.not_mem_nil, or_false] at hx; rcases hx with rfl | rfl | rfl | rfl | rfl | rfl | rfl | rfl | rfl | rfl | rfl | rfl | rfl | rfl | rfl | rfl <;> k_is)
