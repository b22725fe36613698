import PyProof.Rows.All
import Wide.All
import OpenK.AllK
import Wide.FinOn
import PyProof.EqAt
import PyProof.EqKinds
import PyProof.TupleCall
import HandS.ForMost
import HandS.Exc
import HandS.ExcOwn
import HandS.WordsExc
import HandS.Lambda
import HandS.TupAny
import HandS.IsInst
import HandS.SortInts
import HandS.TupLen
import HandS.WordsDict
import HandS.Text
import HandS.ExcIs
import HandS.WideBits
import HandS.Conv
import PyProof.ReprRoads
import HandS.DictComp
import HandS.DictTup
import HandS.SortOrd
import KE.KDictPairs
import KE.KDictSum
import HandS.SortRule
import HandS.Wide
import HandS.EndTab
import HandS.Gcd
import HandS.TupLe
import KE.KDictList
import HandS.Zip
import HandS.SetFor
import HandS.Strs
import PySem.Challenge.RW_hashhall_k05_whole_rows_all_ways_round
set_option Elab.async false
set_option linter.all false
set_option maxRecDepth 100000
set_option maxHeartbeats 4000000
namespace DL
open PySem PySem.Spec PyProof.Rows L2

/-! ## data upon the abstract heap -/
abbrev D := PyData
def kD : Key → D
  | .inl i => .int i
  | .inr x => .str x
mutual
/-- k: whether tuples that the top has written may be among it -/
inductive Is (K : PySem.W.Frag) (k : Bool) (H : Hp) : V → D → Prop
  | non : Is K k H .non .none
  | bl (b : Bool) : Is K k H (.bl b) (.bool b)
  | int (i : Int) : Is K k H (.int i) (.int i)
  | str (x : Str) : Is K k H (.str x) (.str x)
  | lst {a : Addr} {xs : List V} {ds : List D} : H a = some (.lst xs) → xs.length ≤ sizeLine → IsL K k H xs ds → Is K k H (.ref a) (.list ds)
  | tup {a : Addr} {xs : List V} {ds : List D} : H a = some (.tup xs) → xs.length ≤ sizeLine → IsL K k H xs ds → Is K k H (.ref a) (.tuple ds)
  | tupK {a : Addr} {xs : List V} {ds : List D} : k = true → SqT K H a xs → xs.length ≤ sizeLine → IsL K k H xs ds → Is K k H (.ref a) (.tuple ds)
  | dct {a : Addr} {kvs : List (Key × V)} {kds : List (D × D)} : Rd H a (.dK kvs) → IsD K k H kvs kds → Is K k H (.ref a) (.dict kds)
  | dctT {a : Addr} {kvs : List (List Key × V)} {kds : List (D × D)} : H a = some (.dT kvs) → IsDT K k H kvs kds → Is K k H (.ref a) (.dict kds)
inductive IsL (K : PySem.W.Frag) (k : Bool) (H : Hp) : List V → List D → Prop
  | nil : IsL K k H [] []
  | cons {v : V} {vs : List V} {d : D} {ds : List D} : Is K k H v d → IsL K k H vs ds → IsL K k H (v :: vs) (d :: ds)
inductive IsD (K : PySem.W.Frag) (k : Bool) (H : Hp) : List (Key × V) → List (D × D) → Prop
  | nil : IsD K k H [] []
  | cons {y : Key} {v : V} {r : List (Key × V)} {d : D} {rd : List (D × D)} : Is K k H v d → IsD K k H r rd → IsD K k H ((y, v) :: r) ((kD y, d) :: rd)
inductive IsDT (K : PySem.W.Frag) (k : Bool) (H : Hp) : List (List Key × V) → List (D × D) → Prop
  | nil : IsDT K k H [] []
  | cons {y : List Key} {v : V} {r : List (List Key × V)} {d : D} {rd : List (D × D)} : Is K k H v d → IsDT K k H r rd → IsDT K k H ((y, v) :: r) ((.tuple (y.map kD), d) :: rd)
end

theorem SqL.same {K : PySem.W.Frag} {H H' : Hp} {a : Addr} {xs : List V} (e : Same H H') (h : SqL K H a xs) : SqL K H' a xs := by
  rcases h with (h | ⟨o, h⟩) | h
  · exact .inl (.inl (e _ _ h))
  · exact .inl (.inr ⟨o, e _ _ h⟩)
  · exact .inr h
theorem SqT.same {K : PySem.W.Frag} {H H' : Hp} {a : Addr} {xs : List V} (e : Same H H') (h : SqT K H a xs) : SqT K H' a xs := by
  rcases h with (h | ⟨o, h⟩) | h
  · exact .inl (.inl (e _ _ h))
  · exact .inl (.inr ⟨o, e _ _ h⟩)
  · exact .inr h
theorem Rd.same {H H' : Hp} {a : Addr} {u : HO} (e : Same H H') (h : Rd H a u) : Rd H' a u := by
  rcases h with h | ⟨o, h⟩
  · exact .inl (e _ _ h)
  · exact .inr ⟨o, e _ _ h⟩
mutual
theorem Is.mono {K : PySem.W.Frag} {k : Bool} {H H' : Hp} (e : Same H H') : ∀ {v : V} {d : D}, Is K k H v d → Is K k H' v d
  | _, _, .non => .non
  | _, _, .bl b => .bl b
  | _, _, .int i => .int i
  | _, _, .str x => .str x
  | _, _, .lst h l r => .lst (e _ _ h) l (IsL.mono e r)
  | _, _, .tup h l r => .tup (e _ _ h) l (IsL.mono e r)
  | _, _, .tupK q h l r => .tupK q (SqT.same e h) l (IsL.mono e r)
  | _, _, .dct h r => .dct (Rd.same e h) (IsD.mono e r)
  | _, _, .dctT h r => .dctT (e _ _ h) (IsDT.mono e r)
theorem IsL.mono {K : PySem.W.Frag} {k : Bool} {H H' : Hp} (e : Same H H') : ∀ {v : List V} {d : List D}, IsL K k H v d → IsL K k H' v d
  | _, _, .nil => .nil
  | _, _, .cons h r => .cons (Is.mono e h) (IsL.mono e r)
theorem IsD.mono {K : PySem.W.Frag} {k : Bool} {H H' : Hp} (e : Same H H') : ∀ {v : List (Key × V)} {d : List (D × D)}, IsD K k H v d → IsD K k H' v d
  | _, _, .nil => .nil
  | _, _, .cons h r => .cons (Is.mono e h) (IsD.mono e r)
theorem IsDT.mono {K : PySem.W.Frag} {k : Bool} {H H' : Hp} (e : Same H H') : ∀ {v : List (List Key × V)} {d : List (D × D)}, IsDT K k H v d → IsDT K k H' v d
  | _, _, .nil => .nil
  | _, _, .cons h r => .cons (Is.mono e h) (IsDT.mono e r)
end
mutual
theorem Is.k {K : PySem.W.Frag} {k k' : Bool} {H : Hp} (e : k = true → k' = true) : ∀ {v : V} {d : D}, Is K k H v d → Is K k' H v d
  | _, _, .non => .non
  | _, _, .bl b => .bl b
  | _, _, .int i => .int i
  | _, _, .str x => .str x
  | _, _, .lst h l r => .lst h l (IsL.k e r)
  | _, _, .tup h l r => .tup h l (IsL.k e r)
  | _, _, .tupK q h l r => .tupK (e q) h l (IsL.k e r)
  | _, _, .dct h r => .dct h (IsD.k e r)
  | _, _, .dctT h r => .dctT h (IsDT.k e r)
theorem IsL.k {K : PySem.W.Frag} {k k' : Bool} {H : Hp} (e : k = true → k' = true) : ∀ {v : List V} {d : List D}, IsL K k H v d → IsL K k' H v d
  | _, _, .nil => .nil
  | _, _, .cons h r => .cons (Is.k e h) (IsL.k e r)
theorem IsD.k {K : PySem.W.Frag} {k k' : Bool} {H : Hp} (e : k = true → k' = true) : ∀ {v : List (Key × V)} {d : List (D × D)}, IsD K k H v d → IsD K k' H v d
  | _, _, .nil => .nil
  | _, _, .cons h r => .cons (Is.k e h) (IsD.k e r)
theorem IsDT.k {K : PySem.W.Frag} {k k' : Bool} {H : Hp} (e : k = true → k' = true) : ∀ {v : List (List Key × V)} {d : List (D × D)}, IsDT K k H v d → IsDT K k' H v d
  | _, _, .nil => .nil
  | _, _, .cons h r => .cons (Is.k e h) (IsDT.k e r)
end
theorem or_l {a b : Bool} : a = true → (a || b) = true := fun h => by rw [h]; rfl
theorem or_r {a b : Bool} : b = true → (a || b) = true := fun h => by rw [h, Bool.or_true]
theorem IsL.length {K : PySem.W.Frag} {k : Bool} {H : Hp} : ∀ {v : List V} {d : List D}, IsL K k H v d → v.length = d.length
  | _, _, .nil => rfl
  | _, _, .cons _ r => by rw [List.length_cons, List.length_cons, IsL.length r]
theorem IsL.append {K : PySem.W.Frag} {k : Bool} {H : Hp} : ∀ {v w : List V} {d e : List D}, IsL K k H v d → IsL K k H w e → IsL K k H (v ++ w) (d ++ e)
  | _, _, _, _, .nil, s => s
  | _, _, _, _, .cons h r, s => .cons h (IsL.append r s)
theorem IsL.get {K : PySem.W.Frag} {k : Bool} {H : Hp} : ∀ {v : List V} {d : List D} {i : Nat} {x : D}, IsL K k H v d → d[i]? = some x → ∃ u, v[i]? = some u ∧ Is K k H u x
  | _, _, _, _, .nil, e => by simp at e
  | _, _, 0, _, .cons h _, e => by simp at e; subst e; exact ⟨_, rfl, h⟩
  | _, _, i + 1, x, .cons _ t, e => by
    obtain ⟨u, h1, h2⟩ := IsL.get (i := i) (x := x) t (by simpa using e)
    exact ⟨u, by simpa using h1, h2⟩
theorem IsL.get' {K : PySem.W.Frag} {k : Bool} {H : Hp} : ∀ {v : List V} {d : List D} {i : Nat} {u : V}, IsL K k H v d → v[i]? = some u → ∃ x, d[i]? = some x ∧ Is K k H u x
  | _, _, _, _, .nil, e => by simp at e
  | _, _, 0, _, .cons h _, e => by simp at e; subst e; exact ⟨_, rfl, h⟩
  | _, _, i + 1, x, .cons _ t, e => by
    obtain ⟨u, h1, h2⟩ := IsL.get' (i := i) (u := x) t (by simpa using e)
    exact ⟨u, by simpa using h1, h2⟩
theorem IsL.set {K : PySem.W.Frag} {k : Bool} {H : Hp} {x : V} {y : D} (q : Is K k H x y) : ∀ {v : List V} {d : List D} (i : Nat), IsL K k H v d → IsL K k H (v.set i x) (d.set i y)
  | _, _, _, .nil => .nil
  | _, _, 0, .cons _ t => .cons q t
  | _, _, i + 1, .cons h t => .cons h (IsL.set q i t)
theorem IsL.take {K : PySem.W.Frag} {k : Bool} {H : Hp} : ∀ {v : List V} {d : List D} (n : Nat), IsL K k H v d → IsL K k H (v.take n) (d.take n)
  | _, _, 0, _ => by rw [List.take_zero, List.take_zero]; exact .nil
  | _, _, _ + 1, .nil => .nil
  | _, _, n + 1, .cons r t => .cons r (IsL.take n t)
theorem IsL.drop {K : PySem.W.Frag} {k : Bool} {H : Hp} : ∀ {v : List V} {d : List D} (n : Nat), IsL K k H v d → IsL K k H (v.drop n) (d.drop n)
  | _, _, 0, r => r
  | _, _, _ + 1, .nil => .nil
  | _, _, n + 1, .cons _ t => IsL.drop n t
theorem IsL.reverse {K : PySem.W.Frag} {k : Bool} {H : Hp} : ∀ {v : List V} {d : List D}, IsL K k H v d → IsL K k H v.reverse d.reverse
  | _, _, .nil => .nil
  | _, _, .cons h t => by rw [List.reverse_cons, List.reverse_cons]; exact (IsL.reverse t).append (.cons h .nil)
theorem IsL.ints {K : PySem.W.Frag} {k : Bool} {H : Hp} : ∀ (ns : List Int), IsL K k H (ns.map V.int) (ns.map PyData.int)
  | [] => .nil
  | n :: r => .cons (.int n) (IsL.ints r)

/-! ## the world: what is fixed through the law; G: what is frozen, H: what is tracked -/
structure Bs where
  K : PySem.W.Frag
  mg : Str → Option Value
  st : Option (Addr × Addr)
  T : List (Addr × Str)
def hid (B : Bs) (x : Addr) : Prop := ∃ a g, B.st = some (a, g) ∧ (x = a ∨ x = g)
def bigN : Nat := 1048700
structure StOk (K : PySem.W.Frag) (G H : Hp) (a g : Addr) : Prop where
  ex : ∃ (great cells : List Int) (rest turn : Int) (c : Addr),
    H a = some (.dK [(.inr "great", .ref g), (.inr "cells", .ref c), (.inr "rest", .int rest), (.inr "turn", .int turn)]) ∧
    H g = some (.lst (great.map V.int)) ∧ SqL K G c (cells.map V.int) ∧ (∀ x ∈ great, 0 ≤ x ∧ x < 2 ^ bigN) ∧ (∀ x ∈ cells, 0 ≤ x ∧ x < 2 ^ bigN) ∧ (0 ≤ rest ∧ rest < 2 ^ bigN) ∧ 0 ≤ turn ∧ great.length ≤ 1000 ∧ cells.length ≤ 1000
structure WOk (B : Bs) (G H : Hp) : Prop where
  sub : Same G H
  hidG : ∀ x, hid B x → G x = none
  st : ∀ a g, B.st = some (a, g) → a ≠ g ∧ StOk B.K G H a g
  tab : LamX.Tabs B.T H
  gt : ∀ b ps, G b ≠ some (.tbl ps)
/-- an object of data: neither a table nor a code object -/
def pl : HO → Bool
  | .lst _ => true
  | .tup _ => true
  | .dK _ => true
  | .dT _ => true
  | .frz _ _ => true
  | _ => false
theorem pl_tbl {o : HO} (h : pl o = true) (ps : Array Value) : o ≠ .tbl ps := fun e => by subst e; cases h
theorem pl_ext {o : HO} (h : pl o = true) (f : Heap → Prop) : o ≠ .ext f := fun e => by subst e; cases h
/-- nothing is tracked there but a table, perhaps -/
def fr0 (H : Hp) (p : Addr) : Prop := ∀ o, H p = some o → ∃ ps, o = .tbl ps
theorem fr0_none {H : Hp} {p : Addr} (h : H p = none) : fr0 H p := fun o e => by rw [h] at e; cases e
theorem fr0_not {H : Hp} {p : Addr} {o : HO} (h : fr0 H p) (e : H p = some o) (t : ∀ ps, o ≠ .tbl ps) : False := by
  obtain ⟨ps, z⟩ := h o e
  exact t ps z
/-- nothing of anybody's own is there -/
def nw (H : Hp) (p : Addr) : Prop := fr0 H p ∨ ∃ vs, H p = some (.tup vs)
def ow : HO → Bool
  | .lst _ => true
  | .dK _ => true
  | .dT _ => true
  | .frz _ _ => true
  | _ => false
theorem nw_not {H : Hp} {p : Addr} {o : HO} (h : nw H p) (e : H p = some o) (t : ow o = true) : False := by
  rcases h with h | ⟨vs, h⟩
  · exact fr0_not h e fun ps z => by subst z; cases t
  · rw [h] at e; cases e; cases t
structure Step (B : Bs) (G H G' H' : Hp) : Prop where
  sub : Same G G'
  ok0 : WOk B G H
  ok : WOk B G' H'
  keep : ∀ x o, H x = some o → ¬ hid B x → (∀ ps, o ≠ .tbl ps) → H' x = some o
  new : ∀ x, G' x ≠ none → G x ≠ none ∨ nw H x
section
variable {B : Bs} {G H G' H' G'' H'' : Hp} {p : Addr} {o : HO}
theorem Step.refl (w : WOk B G H) : Step B G H G H := ⟨Same.refl _, w, w, fun _ _ h _ _ => h, fun _ h => .inl h⟩
theorem WOk.hidH (w : WOk B G H) {x : Addr} (h : hid B x) : ∃ o, H x = some o ∧ ∀ ps, o ≠ .tbl ps := by
  obtain ⟨a, g, e, q⟩ := h
  obtain ⟨_, ⟨great, cells, rest, turn, c, h1, h2, _⟩⟩ := w.st a g e
  rcases q with rfl | rfl
  · exact ⟨_, h1, fun _ => HO.noConfusion⟩
  · exact ⟨_, h2, fun _ => HO.noConfusion⟩
theorem Step.dom (s : Step B G H G' H') {x : Addr} (h : fr0 H' x) : fr0 H x := fun o e => by
  by_cases t : ∃ ps, o = .tbl ps
  · exact t
  · exfalso
    have nt : ∀ ps, o ≠ .tbl ps := fun ps z => t ⟨ps, z⟩
    by_cases hh : hid B x
    · obtain ⟨u, eu, tu⟩ := s.ok.hidH hh
      exact fr0_not h eu tu
    · exact fr0_not h (s.keep x o e hh nt) nt
theorem Step.dom2 (s : Step B G H G' H') {x : Addr} (h : nw H' x) : nw H x := by
  rcases h with h | ⟨vs, h⟩
  · exact .inl (s.dom h)
  · by_cases t : fr0 H x
    · exact .inl t
    · have t2 : ∃ o, H x = some o ∧ ∀ ps, o ≠ .tbl ps := Classical.byContradiction fun c => t fun o e => Classical.byContradiction fun c2 => c ⟨o, e, fun ps z => c2 ⟨ps, z⟩⟩
      obtain ⟨o, e, nt⟩ := t2
      by_cases hh : hid B x
      · exfalso
        obtain ⟨a, g, eb, q⟩ := hh
        obtain ⟨_, ⟨great, cells, rest, turn, c, h1, h2, _⟩⟩ := s.ok.st a g eb
        rcases q with rfl | rfl
        · rw [h1] at h; cases h
        · rw [h2] at h; cases h
      · have e2 := s.keep x o e hh nt
        rw [h] at e2
        cases e2
        exact .inr ⟨vs, e⟩
theorem Step.trans (a : Step B G H G' H') (b : Step B G' H' G'' H'') : Step B G H G'' H'' where
  sub := a.sub.trans b.sub
  ok0 := a.ok0
  ok := b.ok
  keep := fun x o h n t => b.keep x o (a.keep x o h n t) n t
  new := fun x h => by
    rcases b.new x h with q | q
    · exact a.new x q
    · exact .inr (a.dom2 q)
theorem WOk.noG (w : WOk B G H) (n : H p = none) : G p = none := w.sub.free n
theorem same_upd (n : H p = none) : Same H (upd H p o) := fun b u e => by rw [upd_ne (ne_of_none e n)]; exact e
theorem StOk.ext {K : PySem.W.Frag} {a g : Addr} (s : StOk K G H a g) (e : Same H H') (eG : Same G G') : StOk K G' H' a g := by
  obtain ⟨great, cells, rest, turn, c, h1, h2, h3, r⟩ := s.ex
  exact ⟨great, cells, rest, turn, c, e _ _ h1, e _ _ h2, SqL.same eG h3, r⟩
theorem WOk.notHid (w : WOk B G H) (n : fr0 H p) : ¬ hid B p := fun h => by
  obtain ⟨o, e, t⟩ := w.hidH h
  exact fr0_not n e t
theorem WOk.notHidG (w : WOk B G H) (n : G p = some o) : ¬ hid B p := fun h => by
  rw [w.hidG p h] at n; cases n
theorem WOk.tabH (w : WOk B G H) {q : Addr × Str} (h : q ∈ B.T) : ∃ ps, H q.1 = some (.tbl ps) := by
  obtain ⟨ps, e, _⟩ := w.tab q h
  exact ⟨ps, e⟩
/-- a new object, owned -/
theorem Step.alloc (w : WOk B G H) (n : H p = none) : Step B G H G (upd H p o) where
  sub := Same.refl _
  ok0 := w
  ok := ⟨w.sub.trans (same_upd n), w.hidG, fun a g e => ⟨(w.st a g e).1, (w.st a g e).2.ext (same_upd n) (Same.refl _)⟩, w.tab.ext (same_upd n), w.gt⟩
  keep := fun x u h _ _ => same_upd n _ _ h
  new := fun _ h => .inl h
/-- what was new behind H is frozen -/
theorem Step.frz (s : Step B G H G' H') (n : fr0 H p) (h : H' p = some o) (nt : pl o = true) (nh : ¬ hid B p) (ng : G' p = none) : Step B G H (upd G' p o) H' where
  sub := s.sub.trans (same_upd ng)
  ok0 := s.ok0
  ok := ⟨fun b u e => by
      by_cases q : b = p
      · subst q; rw [upd_same] at e; cases e; exact h
      · rw [upd_ne q] at e; exact s.ok.sub _ _ e, fun x hx => by
      rw [upd_ne (fun q : x = p => nh (by rw [← q]; exact hx))]; exact s.ok.hidG x hx, fun a g e => ⟨(s.ok.st a g e).1, (s.ok.st a g e).2.ext (Same.refl _) (same_upd ng)⟩, s.ok.tab, fun b ps e => by
      by_cases q : b = p
      · subst q; rw [upd_same] at e; exact pl_tbl nt ps (Option.some.inj e)
      · rw [upd_ne q] at e; exact s.ok.gt b ps e⟩
  keep := s.keep
  new := fun x hx => by
    by_cases q : x = p
    · subst q; exact .inr (.inl n)
    · rw [upd_ne q] at hx; exact s.new x hx
/-- a tuple that stands is frozen -/
theorem Step.frzT {vs : List V} (s : Step B G H G' H') (h : H' p = some (.tup vs)) (h0 : nw H p) (ng : G' p = none) : Step B G H (upd G' p (.tup vs)) H' := by
  have nh : ¬ hid B p := fun ⟨a, g, eb, q⟩ => by
    obtain ⟨_, ⟨great, cells, rest, turn, c, h1, h2, _⟩⟩ := s.ok.st a g eb
    rcases q with rfl | rfl
    · rw [h1] at h; cases h
    · rw [h2] at h; cases h
  refine ⟨s.sub.trans (same_upd ng), s.ok0, ⟨fun b u e => ?_, fun x hx => ?_, fun a g e => ⟨(s.ok.st a g e).1, (s.ok.st a g e).2.ext (Same.refl _) (same_upd ng)⟩, s.ok.tab, fun b ps e => ?_⟩, s.keep, fun x hx => ?_⟩
  · by_cases q : b = p
    · subst q; rw [upd_same] at e; cases e; exact h
    · rw [upd_ne q] at e; exact s.ok.sub _ _ e
  · rw [upd_ne (fun q : x = p => nh (by rw [← q]; exact hx))]; exact s.ok.hidG x hx
  · by_cases q : b = p
    · subst q; rw [upd_same] at e; cases e
    · rw [upd_ne q] at e; exact s.ok.gt b ps e
  · by_cases q : x = p
    · subst q; exact .inr h0
    · rw [upd_ne q] at hx; exact s.new x hx
/-- many at once -/
theorem Step.frzTs (w : WOk B G H) : ∀ l : List (Addr × List V), (∀ q ∈ l, H q.1 = some (.tup q.2)) → ∃ G2, Step B G H G2 H ∧ ∀ q ∈ l, G2 q.1 = some (.tup q.2)
  | [], _ => ⟨G, Step.refl w, fun _ h => nomatch h⟩
  | q :: l, h => by
    obtain ⟨G2, S, e⟩ := Step.frzTs w l fun q m => h q (List.mem_cons_of_mem _ m)
    have h1 := h q List.mem_cons_self
    cases z : G2 q.1 with
    | some o =>
      refine ⟨G2, S, fun x hx => ?_⟩
      rcases List.mem_cons.mp hx with y | y
      · subst y
        have := S.ok.sub _ _ z
        rw [h1] at this; cases this; exact z
      · exact e x y
    | none =>
      refine ⟨upd G2 q.1 (.tup q.2), S.frzT h1 (.inr ⟨_, h1⟩) z, fun x hx => ?_⟩
      rcases List.mem_cons.mp hx with y | y
      · subst y; exact upd_same
      · by_cases c : x.1 = q.1
        · have h2 := h x hx
          rw [c, h1] at h2
          have h3 : q.2 = x.2 := HO.tup.inj (Option.some.inj h2)
          rw [c, h3]; exact upd_same
        · rw [upd_ne c]; exact e x y
/-- a new object, frozen -/
theorem Step.allocG (w : WOk B G H) (n : H p = none) (nt : pl o = true) : Step B G H (upd G p o) (upd H p o) :=
  (Step.alloc w n).frz (fr0_none n) upd_same nt (w.notHid (fr0_none n)) (w.noG n)
/-- an owned object, new behind the entry, is changed -/
theorem Step.write {u : HO} (s : Step B G H G' H') (n : fr0 H p) (h : H' p = some u) (nt : pl u = true) (nh : ¬ hid B p) (ng : G' p = none) : Step B G H G' (upd H' p o) where
  sub := s.sub
  ok0 := s.ok0
  ok := ⟨fun b u e => by rw [upd_ne (ne_of_none e ng)]; exact s.ok.sub _ _ e, s.ok.hidG, fun a g e => ⟨(s.ok.st a g e).1, by
      obtain ⟨great, cells, rest, turn, c, h1, h2, r⟩ := (s.ok.st a g e).2.ex
      have na : a ≠ p := fun q => nh ⟨a, g, e, .inl q.symm⟩
      have ng : g ≠ p := fun q => nh ⟨a, g, e, .inr q.symm⟩
      exact ⟨great, cells, rest, turn, c, by rw [upd_ne na]; exact h1, by rw [upd_ne ng]; exact h2, r⟩⟩, fun q hq => by
      obtain ⟨ps, e, t, k⟩ := s.ok.tab q hq
      have np : q.1 ≠ p := fun z => pl_tbl nt ps (by rw [z, h] at e; exact Option.some.inj e)
      refine ⟨ps, by rw [upd_ne np]; exact e, t, fun pos cv hc => ?_⟩
      obtain ⟨c, e1, e2⟩ := k pos cv hc
      by_cases z : c = p
      · rw [z, h] at e2; exact absurd (Option.some.inj e2) (pl_ext nt _)
      · exact ⟨c, e1, by rw [upd_ne z]; exact e2⟩, s.ok.gt⟩
  keep := fun x u hx nh' t => by
    rw [upd_ne (fun z => by rw [z] at hx; exact fr0_not n hx t)]
    exact s.keep x u hx nh' t
  new := s.new
end

/-! ## how often the state was mixed -/
def capT : Nat := 2 ^ 1000000
def TurnIs (H : Hp) (a : Addr) (t : Int) : Prop := ∃ (g c : Addr) (rest : Int), H a = some (.dK [(.inr "great", .ref g), (.inr "cells", .ref c), (.inr "rest", .int rest), (.inr "turn", .int t)])
theorem TurnIs.uniq {H : Hp} {a : Addr} {t t' : Int} (h : TurnIs H a t) (h' : TurnIs H a t') : t = t' := by
  obtain ⟨g, c, r, e⟩ := h
  obtain ⟨g', c', r', e'⟩ := h'
  rw [e] at e'
  have z := HO.dK.inj (Option.some.inj e')
  simp at z
  exact z.2.2.2
/-- from H to H' the turn grows by at most n -/
def Gr (B : Bs) (n : Nat) (H H' : Hp) : Prop := ∀ a g t t', B.st = some (a, g) → TurnIs H a t → TurnIs H' a t' → t' ≤ t + n
theorem WOk.turn {B : Bs} {G H : Hp} (w : WOk B G H) {a g : Addr} (e : B.st = some (a, g)) : ∃ t, TurnIs H a t := by
  obtain ⟨_, ⟨great, cells, rest, turn, c, h1, _⟩⟩ := w.st a g e
  exact ⟨turn, g, c, rest, h1⟩
theorem Gr.trans {B : Bs} {n m : Nat} {G H H' H'' : Hp} (a : Gr B n H H') (w : WOk B G H') (b : Gr B m H' H'') : Gr B (n + m) H H'' := fun x g t t' e h h' => by
  obtain ⟨u, hu⟩ := w.turn e
  have h1 := a x g t u e h hu
  have h2 := b x g u t' e hu h'
  omega
theorem Gr.le {B : Bs} {n m : Nat} {H H' : Hp} (a : Gr B n H H') (h : n ≤ m) : Gr B m H H' := fun x g t t' e h1 h2 => by
  have := a x g t t' e h1 h2
  omega
theorem Gr.same {B : Bs} {H H' : Hp} (h : ∀ x, hid B x → H' x = H x) : Gr B 0 H H' := fun a g t t' e h1 h2 => by
  obtain ⟨g2, c2, r2, z⟩ := h2
  rw [h a ⟨a, g, e, .inl rfl⟩] at z
  have := h1.uniq ⟨g2, c2, r2, z⟩
  omega
/-- a step, counted -/
structure StepN (B : Bs) (n : Nat) (G H G' H' : Hp) : Prop extends Step B G H G' H' where
  gr : Gr B n H H'
instance {B : Bs} {n : Nat} {G H G' H' : Hp} : CoeOut (StepN B n G H G' H') (Step B G H G' H') := ⟨StepN.toStep⟩
section
variable {B : Bs} {n m : Nat} {G H G' H' G'' H'' : Hp} {p : Addr} {o : HO}
theorem StepN.refl (w : WOk B G H) : StepN B 0 G H G H := ⟨Step.refl w, Gr.same fun _ _ => rfl⟩
theorem StepN.trans (a : StepN B n G H G' H') (b : StepN B m G' H' G'' H'') : StepN B (n + m) G H G'' H'' := ⟨a.toStep.trans b.toStep, a.gr.trans a.ok b.gr⟩
theorem StepN.le (a : StepN B n G H G' H') (h : n ≤ m) : StepN B m G H G' H' := ⟨a.toStep, a.gr.le h⟩
theorem same_hid {o : HO} (w : WOk B G H) (n : fr0 H p) : ∀ x, hid B x → upd H p o x = H x := fun x hx => by
  rw [upd_ne fun z => w.notHid n (by rw [← z]; exact hx)]
theorem StepN.alloc (w : WOk B G H) (h : H p = none) : StepN B 0 G H G (upd H p o) := ⟨Step.alloc w h, Gr.same (same_hid w (fr0_none h))⟩
theorem StepN.allocG (w : WOk B G H) (h : H p = none) (t : pl o = true) : StepN B 0 G H (upd G p o) (upd H p o) := ⟨Step.allocG w h t, Gr.same (same_hid w (fr0_none h))⟩
theorem StepN.frz (s : StepN B n G H G' H') (h0 : fr0 H p) (h : H' p = some o) (nt : pl o = true) (nh : ¬ hid B p) (ng : G' p = none) : StepN B n G H (upd G' p o) H' := ⟨s.toStep.frz h0 h nt nh ng, s.gr⟩
theorem StepN.write {u : HO} (s : StepN B n G H G' H') (h0 : fr0 H p) (h : H' p = some u) (nt : pl u = true) (nh : ¬ hid B p) (ng : G' p = none) : StepN B n G H G' (upd H' p o) :=
  ⟨s.toStep.write h0 h nt nh ng, fun a g t t' e h1 h2 => s.gr a g t t' e h1 (by
    obtain ⟨g2, c2, r2, z⟩ := h2
    rw [upd_ne fun q => nh ⟨a, g, e, .inl q.symm⟩] at z
    exact ⟨g2, c2, r2, z⟩)⟩
end
/-! ## values as the mathematics sees them -/
inductive SV where
  /-- frozen data (k: see Is) -/
  | d (k : Bool) (x : D)
  /-- the law's own state -/
  | st
  /-- an own list or dict that a name of this def holds (looked at, not kept) -/
  | own (k : Bool) (x : D)
  /-- a new list or dict that nobody holds yet -/
  | fr (k : Bool) (x : D)
  /-- an exception of a class by its name -/
  | exc (n : Str)
  /-- the law's script -/
  | scr (ns : List Int)
def Own (K : PySem.W.Frag) (k : Bool) (G H : Hp) (p : Addr) : D → Prop
  | .list ds => ∃ vs, H p = some (.lst vs) ∧ vs.length ≤ sizeLine ∧ IsL K k G vs ds
  | .dict kds => (∃ kvs, H p = some (.dK kvs) ∧ IsD K k G kvs kds) ∨ ∃ kvs, H p = some (.dT kvs) ∧ IsDT K k G kvs kds
  | .tuple ds => k = true ∧ ∃ o vs, H p = some (.frz o (.tup vs)) ∧ o.cls = .type "tuple" ∧ o.dict = none ∧ vs.length ≤ sizeLine ∧ IsL K k G vs ds
  | _ => False
/-- an exception object that is kept -/
def ExcO (c : Value) (a : Addr) : HO := .ext fun h => ∃ (oe : Obj) (vs : Array Value), h.get? a = some oe ∧ oe.cls = c ∧ oe.dict = none ∧ oe.data = .fields vs
structure ScrO (K : PySem.W.Frag) (G : Hp) (v : V) (ns : List Int) : Prop where
  ex : ∃ a, v = .ref a ∧ SqL K G a (ns.map V.int)
  len : ns.length ≤ 1000
theorem ScrO.same {K : PySem.W.Frag} {G G' : Hp} {v : V} {ns : List Int} (h : ScrO K G v ns) (s : Same G G') : ScrO K G' v ns := let ⟨a, e, q⟩ := h.ex; ⟨⟨a, e, SqL.same s q⟩, h.len⟩
def IsV (B : Bs) (G H : Hp) (v : V) : SV → Prop
  | .d k x => Is B.K k G v x
  | .st => ∃ a g, B.st = some (a, g) ∧ v = .ref a
  | .own k x => ∃ p, v = .ref p ∧ ¬ hid B p ∧ Own B.K k G H p x
  | .fr k x => ∃ p, v = .ref p ∧ ¬ hid B p ∧ G p = none ∧ Own B.K k G H p x
  | .exc n => ∃ a c, v = .ref a ∧ B.mg n = some c ∧ H a = some (ExcO c a)
  | .scr ns => ScrO B.K G v ns
/-- .. H: the heap ahead, in which a new thing is not -/
def IsR (B : Bs) (H G' H' : Hp) (v : V) (s : SV) : Prop := IsV B G' H' v s ∧ ∀ k x, s = .fr k x → ∀ p, v = .ref p → fr0 H p
theorem ExcO_tbl {c : Value} {a : Addr} (ps : Array Value) : ExcO c a ≠ .tbl ps := fun e => by cases e
section
variable {B : Bs} {G H G' H' G'' H'' : Hp} {p : Addr} {o : HO} {v : V} {s : SV} {k : Bool} {x : D}
theorem Own.pl {K : PySem.W.Frag} (h : Own K k G H p x) : ∃ o, H p = some o ∧ pl o = true := by
  cases x with
  | list ds => obtain ⟨vs, e, _⟩ := h; exact ⟨_, e, rfl⟩
  | dict kds =>
    rcases h with ⟨vs, e, _⟩ | ⟨vs, e, _⟩
    · exact ⟨_, e, rfl⟩
    · exact ⟨_, e, rfl⟩
  | tuple ds => obtain ⟨_, o, vs, e, _⟩ := h; exact ⟨_, e, rfl⟩
  | _ => exact h.elim
theorem Own.ow {K : PySem.W.Frag} (h : Own K k G H p x) : ∃ o, H p = some o ∧ ow o = true := by
  cases x with
  | list ds => obtain ⟨vs, e, _⟩ := h; exact ⟨_, e, rfl⟩
  | dict kds =>
    rcases h with ⟨vs, e, _⟩ | ⟨vs, e, _⟩
    · exact ⟨_, e, rfl⟩
    · exact ⟨_, e, rfl⟩
  | tuple ds => obtain ⟨_, o, vs, e, _⟩ := h; exact ⟨_, e, rfl⟩
  | _ => exact h.elim
theorem Own.mono {K : PySem.W.Frag} (h : Own K k G H p x) (e : Same G G') (kp : ∀ o, H p = some o → H' p = some o) : Own K k G' H' p x := by
  cases x with
  | list ds => obtain ⟨vs, q, l, r⟩ := h; exact ⟨vs, kp _ q, l, r.mono e⟩
  | dict kds =>
    rcases h with ⟨vs, q, r⟩ | ⟨vs, q, r⟩
    · exact .inl ⟨vs, kp _ q, r.mono e⟩
    · exact .inr ⟨vs, kp _ q, r.mono e⟩
  | tuple ds => obtain ⟨z, o, vs, q, c, d, l, r⟩ := h; exact ⟨z, o, vs, kp _ q, c, d, l, r.mono e⟩
  | _ => exact h.elim
theorem Own.step {K : PySem.W.Frag} (h : Own K k G H p x) (s : Step B G H G' H') (nh : ¬ hid B p) : Own K k G' H' p x := by
  obtain ⟨o, e, q⟩ := h.pl
  exact h.mono s.sub fun u z => s.keep p u z nh (by rw [e] at z; cases z; exact pl_tbl q)
theorem IsV.step0 (h : IsV B G H v s) (st : Step B G H G' H') : IsV B G' H' v s := by
  cases s with
  | d k x => exact Is.mono st.sub h
  | st => exact h
  | own k x => obtain ⟨p, e, n, q⟩ := h; exact ⟨p, e, n, q.step st n⟩
  | fr k x =>
    obtain ⟨p, e, n, g, q⟩ := h
    refine ⟨p, e, n, ?_, q.step st n⟩
    cases z : G' p with
    | none => rfl
    | some u =>
      rcases st.new p (by rw [z]; exact Option.some_ne_none _) with y | y
      · exact absurd g y
      · obtain ⟨o, e, po⟩ := q.ow
        exact (nw_not y e po).elim
  | scr ns => exact h.same st.sub
  | exc n =>
    obtain ⟨a, c, e, m, q⟩ := h
    refine ⟨a, c, e, m, ?_⟩
    refine st.keep a _ q (fun hh => ?_) fun ps => ExcO_tbl ps
    obtain ⟨a', g', e', z⟩ := hh
    obtain ⟨_, ⟨great, cells, rest, turn, c', h1, h2, _⟩⟩ := st.ok0.st a' g' e'
    rcases z with rfl | rfl
    · rw [q] at h1; cases h1
    · rw [q] at h2; cases h2
theorem IsV.step {n : Nat} (h : IsV B G H v s) (st : StepN B n G H G' H') : IsV B G' H' v s := h.step0 st.toStep
/-- what may be kept: a new thing is frozen -/
theorem IsR.frz (h : IsR B H G' H' v (.fr k x)) (st : Step B G H G' H') : ∃ G'', Step B G H G'' H' ∧ IsV B G'' H' v (.d k x) ∧ Same G' G'' := by
  obtain ⟨⟨p, e, n, g, q⟩, nw⟩ := h
  obtain ⟨o, eo, po⟩ := q.pl
  refine ⟨upd G' p o, st.frz (nw _ _ rfl p e) eo po n g, ?_, same_upd g⟩
  subst e
  have sm : Same G' (upd G' p o) := same_upd g
  cases x with
  | list ds =>
    obtain ⟨vs, e1, l, r⟩ := q
    rw [eo] at e1; cases e1
    exact .lst upd_same l (r.mono sm)
  | dict kds =>
    rcases q with ⟨vs, e1, r⟩ | ⟨vs, e1, r⟩
    · rw [eo] at e1; cases e1
      exact .dct (.of upd_same) (r.mono sm)
    · rw [eo] at e1; cases e1
      exact .dctT upd_same (r.mono sm)
  | tuple ds =>
    obtain ⟨z, ob, vs, e1, c, d, l, r⟩ := q
    rw [eo] at e1; cases e1
    exact .tupK z (.inl (.inr ⟨ob, upd_same⟩)) l (r.mono sm)
  | _ => exact q.elim
end

/-! ## frames -/
abbrev Env := List (Option SV)
structure Cn extends Bs where
  /-- whether no text is being made (guards) is known -/
  gd : Bool
  G0 : Hp
  H0 : Hp
  /-- how often the state may be mixed in here, in all -/
  lim : Nat
  ex : Str → Prop
  E : XK
structure XC (X : Cx) (C : Cn) : Prop where
  K : X.K = C.K
  mg : X.mg = C.mg
  calm : X.calm = true
  room : ∃ k, Room k X.A
  guards : C.gd = true → X.A.guards = some []
  pass : Passes (CX X.prog X.w) X C.E
  takes : Takes X (fun cls d _ H => C.E cls d H)
  pown : PassesOwn (model X.prog X.w) X.A X.env X.xe
  link : ∀ (n : Str) (c : Value) (G' H' : Hp), C.ex n → C.mg n = some c → StepN C.toBs C.lim C.G0 C.H0 G' H' → C.E c none H'
def SlotV (C : Cn) (G H : Hp) (q : Addr) (v : V) : SV → Prop
  | .own k x => v = .ref q ∧ ¬ hid C.toBs q ∧ G q = none ∧ fr0 C.H0 q ∧ Own C.K k G H q x
  | .fr _ _ => False
  | s => IsV C.toBs G H v s
structure Rel (C : Cn) (G : Hp) (ρ : Env) (σ : L2.St) (H : Hp) : Prop where
  ent : Step C.toBs C.G0 C.H0 G H
  len : σ.length = ρ.length
  slots : ∃ o : Nat → Addr, (∀ (i : Nat) (s : SV), ρ[i]? = some (some s) → ∃ v, σ[i]? = some (some v) ∧ SlotV C G H (o i) v s) ∧
    ∀ (i j : Nat) (k k' : Bool) (x y : D), ρ[i]? = some (some (.own k x)) → ρ[j]? = some (some (.own k' y)) → o i = o j → i = j
section
variable {C : Cn} {G H G' H' : Hp} {ρ : Env} {σ : L2.St}
theorem Rel.ok (r : Rel C G ρ σ H) : WOk C.toBs G H := r.ent.ok
theorem SlotV.step {q : Addr} {v : V} {s : SV} (h : SlotV C G H q v s) (st : Step C.toBs G H G' H') : SlotV C G' H' q v s := by
  cases s with
  | own k x =>
    obtain ⟨e, n, g, h0, w⟩ := h
    refine ⟨e, n, ?_, h0, w.step st n⟩
    cases z : G' q with
    | none => rfl
    | some u =>
      rcases st.new q (by rw [z]; exact Option.some_ne_none _) with y | y
      · exact absurd g y
      · obtain ⟨o, e, po⟩ := w.ow
        exact (nw_not y e po).elim
  | fr k x => exact h
  | d k x => exact IsV.step0 (s := .d k x) h st
  | st => exact IsV.step0 (s := .st) h st
  | exc n => exact IsV.step0 (s := .exc n) h st
  | scr n => exact IsV.step0 (s := .scr n) h st
theorem Rel.step (r : Rel C G ρ σ H) (st : Step C.toBs G H G' H') : Rel C G' ρ σ H' := by
  obtain ⟨o, h, inj⟩ := r.slots
  exact ⟨r.ent.trans st, r.len, o, fun i s e => let ⟨v, e1, q⟩ := h i s e; ⟨v, e1, q.step st⟩, inj⟩
theorem Rel.get (r : Rel C G ρ σ H) {i : Nat} {s : SV} (e : ρ[i]? = some (some s)) : ∃ v, σ[i]? = some (some v) ∧ IsV C.toBs G H v s ∧ ∀ k x, s ≠ .fr k x := by
  obtain ⟨o, h, _⟩ := r.slots
  obtain ⟨v, e1, q⟩ := h i s e
  refine ⟨v, e1, ?_, ?_⟩
  · cases s with
    | own k x => obtain ⟨z, n, g, h0, w⟩ := q; exact ⟨_, z, n, w⟩
    | fr k x => exact q.elim
    | d k x => exact q
    | st => exact q
    | exc n => exact q
    | scr n => exact q
  · rintro k x rfl; exact q.elim
/-- a slot is stored: no own thing -/
theorem Rel.set (r : Rel C G ρ σ H) {i : Nat} {s : SV} {v : V} (q : IsV C.toBs G H v s) (ho : ∀ k x, s ≠ .own k x) (hf : ∀ k x, s ≠ .fr k x) : Rel C G (ρ.set i (some s)) (σ.set i (some v)) H := by
  obtain ⟨o, h, inj⟩ := r.slots
  refine ⟨r.ent, by rw [List.length_set, List.length_set, r.len], o, fun j t e => ?_, fun j k c c' x y e1 e2 z => ?_⟩
  · by_cases hj : j = i
    · subst hj
      have hl : j < ρ.length := by
        have := (List.getElem?_eq_some_iff.mp e).1
        rwa [List.length_set] at this
      rw [List.getElem?_set_self hl] at e
      cases e
      refine ⟨v, by rw [List.getElem?_set_self (by rw [r.len]; exact hl)], ?_⟩
      cases s with
      | own k x => exact absurd rfl (ho k x)
      | fr k x => exact absurd rfl (hf k x)
      | d k x => exact q
      | st => exact q
      | exc n => exact q
      | scr n => exact q
    · rw [List.getElem?_set_ne (Ne.symm hj)] at e
      obtain ⟨v', e1, q'⟩ := h j t e
      exact ⟨v', by rw [List.getElem?_set_ne (Ne.symm hj)]; exact e1, q'⟩
  · have key : ∀ (m : Nat) (c : Bool) (w : D), (ρ.set i (some s))[m]? = some (some (.own c w)) → ρ[m]? = some (some (.own c w)) := fun m c w em => by
      by_cases hm : m = i
      · subst hm
        have hl : m < ρ.length := by
          have := (List.getElem?_eq_some_iff.mp em).1
          rwa [List.length_set] at this
        rw [List.getElem?_set_self hl] at em
        cases em; exact absurd rfl (ho c w)
      · rwa [List.getElem?_set_ne (Ne.symm hm)] at em
    exact inj j k c c' x y (key j c x e1) (key k c' y e2) z
/-- a slot gets a new own thing -/
theorem Rel.setOwn (r : Rel C G ρ σ H) (st : Step C.toBs G H G' H') {i : Nat} {x : D} {kk : Bool} {v : V} (q : IsR C.toBs H G' H' v (.fr kk x)) : Rel C G' (ρ.set i (some (.own kk x))) (σ.set i (some v)) H' := by
  have r' := r.step st
  obtain ⟨⟨p, e, n, g, w⟩, nw⟩ := q
  have hp : fr0 H p := nw _ _ rfl p e
  obtain ⟨o, h, inj⟩ := r.slots
  obtain ⟨_, h', _⟩ := r'.slots
  refine ⟨r'.ent, by rw [List.length_set, List.length_set, r.len], fun j => if j = i then p else o j, fun j t e1 => ?_, fun j k c c' y z e1 e2 ee => ?_⟩
  · by_cases hj : j = i
    · subst hj
      have hl : j < ρ.length := by
        have := (List.getElem?_eq_some_iff.mp e1).1
        rwa [List.length_set] at this
      rw [List.getElem?_set_self hl] at e1
      cases e1
      refine ⟨v, by rw [List.getElem?_set_self (by rw [r.len]; exact hl)], ?_⟩
      show SlotV C G' H' (if j = j then p else o j) v (SV.own kk x)
      rw [if_pos rfl]
      exact ⟨e, n, g, r.ent.dom hp, w⟩
    · rw [List.getElem?_set_ne (Ne.symm hj)] at e1
      obtain ⟨v', e2, q'⟩ := h j t e1
      refine ⟨v', by rw [List.getElem?_set_ne (Ne.symm hj)]; exact e2, ?_⟩
      show SlotV C G' H' (if j = i then p else o j) v' t
      rw [if_neg hj]
      exact q'.step st
  · have old : ∀ (m : Nat) (c : Bool) (w : D), m ≠ i → (ρ.set i (some (.own kk x)))[m]? = some (some (.own c w)) → ρ[m]? = some (some (.own c w)) ∧ o m ≠ p := fun m c w hm em => by
      rw [List.getElem?_set_ne (Ne.symm hm)] at em
      refine ⟨em, fun z => ?_⟩
      obtain ⟨_, _, _, _, _, _, ww⟩ := h m _ em
      obtain ⟨u, eu, pu⟩ := ww.pl
      rw [z] at eu
      exact fr0_not hp eu (pl_tbl pu)
    have ee : (if j = i then p else o j) = (if k = i then p else o k) := ee
    by_cases hj : j = i
    · by_cases hk : k = i
      · rw [hj, hk]
      · rw [if_pos hj, if_neg hk] at ee
        exact absurd ee.symm (old k c' z hk e2).2
    · by_cases hk : k = i
      · rw [if_neg hj, if_pos hk] at ee
        exact absurd ee (old j c y hj e1).2
      · rw [if_neg hj, if_neg hk] at ee
        exact inj j k c c' y z (old j c y hj e1).1 (old k c' z hk e2).1 ee
/-- a slot is forgotten -/
theorem Rel.forget (r : Rel C G ρ σ H) {i : Nat} {v : Option V} : Rel C G (ρ.set i none) (σ.set i v) H := by
  obtain ⟨o, h, inj⟩ := r.slots
  have key : ∀ (m : Nat) (w : SV), (ρ.set i none)[m]? = some (some w) → m ≠ i ∧ ρ[m]? = some (some w) := fun m w em => by
    by_cases hm : m = i
    · subst hm
      have hl : m < ρ.length := by
        have := (List.getElem?_eq_some_iff.mp em).1
        rwa [List.length_set] at this
      rw [List.getElem?_set_self hl] at em
      cases em
    · rw [List.getElem?_set_ne (Ne.symm hm)] at em
      exact ⟨hm, em⟩
  refine ⟨r.ent, by rw [List.length_set, List.length_set, r.len], o, fun j t e => ?_, fun j k c c' x y e1 e2 z => inj j k c c' x y (key j _ e1).2 (key k _ e2).2 z⟩
  obtain ⟨hj, e'⟩ := key j t e
  obtain ⟨v', e1, q⟩ := h j t e'
  exact ⟨v', by rw [List.getElem?_set_ne (Ne.symm hj)]; exact e1, q⟩
/-- an own thing is frozen where it stands -/
theorem Rel.freeze (r : Rel C G ρ σ H) {i : Nat} {x : D} {kk : Bool} (e : ρ[i]? = some (some (.own kk x))) : ∃ G', Rel C G' (ρ.set i (some (.d kk x))) σ H ∧ Same G G' := by
  obtain ⟨o, h, inj⟩ := r.slots
  obtain ⟨v, e1, z, n, g, h0, w⟩ := h i _ e
  obtain ⟨u, eu, pu⟩ := w.pl
  have sm : Same G (upd G (o i) u) := same_upd g
  refine ⟨upd G (o i) u, ⟨r.ent.frz h0 eu pu n g, by rw [List.length_set, r.len], o, fun j t e2 => ?_, fun j k c c' a b e2 e3 ee => ?_⟩, sm⟩
  · by_cases hj : j = i
    · subst hj
      have hl : j < ρ.length := (List.getElem?_eq_some_iff.mp e).1
      rw [List.getElem?_set_self hl] at e2
      cases e2
      refine ⟨v, e1, ?_⟩
      subst z
      show Is C.K _ _ _ _
      cases x with
      | list ds =>
        obtain ⟨vs, q1, l, q2⟩ := w
        rw [eu] at q1; cases q1
        exact .lst upd_same l (q2.mono sm)
      | dict kds =>
        rcases w with ⟨vs, q1, q2⟩ | ⟨vs, q1, q2⟩
        · rw [eu] at q1; cases q1
          exact .dct (.of upd_same) (q2.mono sm)
        · rw [eu] at q1; cases q1
          exact .dctT upd_same (q2.mono sm)
      | tuple ds =>
        obtain ⟨z, ob, vs, q1, c, d, l, q2⟩ := w
        rw [eu] at q1; cases q1
        exact .tupK z (.inl (.inr ⟨ob, upd_same⟩)) l (q2.mono sm)
      | _ => exact w.elim
    · rw [List.getElem?_set_ne (Ne.symm hj)] at e2
      obtain ⟨v', e3, q⟩ := h j t e2
      refine ⟨v', e3, ?_⟩
      cases t with
      | own c y =>
        obtain ⟨z1, z2, z3, z4, z5⟩ := q
        refine ⟨z1, z2, ?_, z4, z5.mono sm fun _ z => z⟩
        rw [upd_ne (fun ee => hj (inj j i _ _ y x e2 e ee))]; exact z3
      | fr c y => exact q
      | d c y => exact Is.mono sm q
      | st => exact q
      | exc y => exact q
      | scr y => exact ScrO.same q sm
  · have key : ∀ (m : Nat) (c : Bool) (w : D), (ρ.set i (some (.d kk x)))[m]? = some (some (.own c w)) → ρ[m]? = some (some (.own c w)) := fun m c w em => by
      by_cases hm : m = i
      · subst hm
        have hl : m < ρ.length := (List.getElem?_eq_some_iff.mp e).1
        rw [List.getElem?_set_self hl] at em
        cases em
      · rwa [List.getElem?_set_ne (Ne.symm hm)] at em
    exact inj j k c c' a b (key j c a e2) (key k c' b e3) ee
/-- an own thing is changed -/
theorem Rel.write (r : Rel C G ρ σ H) {i : Nat} {x y : D} {kk k2 : Bool} {p : Addr} {u : HO} (e : ρ[i]? = some (some (.own kk x))) (hv : σ[i]? = some (some (.ref p))) (hw : Own C.K k2 G (upd H p u) p y) : Rel C G (ρ.set i (some (.own k2 y))) σ (upd H p u) := by
  obtain ⟨o, h, inj⟩ := r.slots
  obtain ⟨v, e1, z, n, g, h0, w⟩ := h i _ e
  rw [hv] at e1; cases e1
  injection z with z
  subst z
  obtain ⟨u0, eu, pu⟩ := w.pl
  have hl : i < ρ.length := (List.getElem?_eq_some_iff.mp e).1
  refine ⟨r.ent.write h0 eu pu n g, by rw [List.length_set, r.len], o, fun j t e2 => ?_, fun j k c c' a b e2 e3 ee => ?_⟩
  · by_cases hj : j = i
    · subst hj
      rw [List.getElem?_set_self hl] at e2
      cases e2
      exact ⟨_, hv, rfl, n, g, h0, hw⟩
    · rw [List.getElem?_set_ne (Ne.symm hj)] at e2
      obtain ⟨v', e3, q⟩ := h j t e2
      refine ⟨v', e3, ?_⟩
      cases t with
      | own c y =>
        obtain ⟨z1, z2, z3, z4, z5⟩ := q
        exact ⟨z1, z2, z3, z4, z5.mono (Same.refl _) fun _ z => by rw [upd_ne (fun ee => hj (inj j i _ _ _ _ e2 e ee))]; exact z⟩
      | fr c y => exact q
      | d c y => exact q
      | st => exact q
      | scr y => exact q
      | exc y =>
        obtain ⟨a, c, z1, z2, z3⟩ := q
        refine ⟨a, c, z1, z2, ?_⟩
        rw [upd_ne (fun ee => ?_)]
        · exact z3
        · rw [ee, eu] at z3; cases Option.some.inj z3; cases pu
  · have key : ∀ (m : Nat) (c : Bool) (w : D), (ρ.set i (some (.own k2 y)))[m]? = some (some (.own c w)) → ∃ c' w', ρ[m]? = some (some (.own c' w')) := fun m c w em => by
      by_cases hm : m = i
      · subst hm; exact ⟨_, _, e⟩
      · rw [List.getElem?_set_ne (Ne.symm hm)] at em
        exact ⟨_, _, em⟩
    obtain ⟨_, _, a'⟩ := key j _ a e2
    obtain ⟨_, _, b'⟩ := key k _ b e3
    exact inj j k _ _ _ _ a' b' ee
/-- a frame, and that n more mixings may come -/
structure RelN (C : Cn) (n : Nat) (G : Hp) (ρ : Env) (σ : L2.St) (H : Hp) : Prop extends Rel C G ρ σ H where
  used : ∃ u, Gr C.toBs u C.H0 H ∧ u + n ≤ C.lim
  cap : ∀ a g t, C.st = some (a, g) → TurnIs C.H0 a t → t + C.lim ≤ capT
instance {C : Cn} {n : Nat} {G : Hp} {ρ : Env} {σ : L2.St} {H : Hp} : CoeOut (RelN C n G ρ σ H) (Rel C G ρ σ H) := ⟨RelN.toRel⟩
theorem RelN.next {n m : Nat} (r : RelN C (n + m) G ρ σ H) (s : StepN C.toBs n G H G' H') : RelN C m G' ρ σ H' := by
  obtain ⟨u, h1, h2⟩ := r.used
  exact ⟨r.toRel.step s, ⟨u + n, h1.trans r.ok s.gr, by omega⟩, r.cap⟩
theorem RelN.le {n m : Nat} (r : RelN C m G ρ σ H) (h : n ≤ m) : RelN C n G ρ σ H := by
  obtain ⟨u, h1, h2⟩ := r.used
  exact ⟨r.toRel, ⟨u, h1, by omega⟩, r.cap⟩
theorem RelN.l {n m : Nat} (r : RelN C (n + m) G ρ σ H) : RelN C n G ρ σ H := r.le (Nat.le_add_right _ _)
/-- another frame at the same heap -/
theorem RelN.at {n : Nat} {G2 : Hp} {ρ2 : Env} {σ2 : L2.St} (r : RelN C n G ρ σ H) (q : Rel C G2 ρ2 σ2 H) : RelN C n G2 ρ2 σ2 H := ⟨q, r.used, r.cap⟩
/-- .. at a heap that the state has not grown to -/
theorem RelN.go {n m : Nat} {G2 : Hp} {ρ2 : Env} {σ2 : L2.St} {H2 : Hp} (r : RelN C (n + m) G ρ σ H) (g : Gr C.toBs n H H2) (q : Rel C G2 ρ2 σ2 H2) : RelN C m G2 ρ2 σ2 H2 := by
  obtain ⟨u, h1, h2⟩ := r.used
  exact ⟨q, ⟨u + n, h1.trans r.ok g, by omega⟩, r.cap⟩
/-- what may be let out -/
theorem RelN.entN {n : Nat} (r : RelN C n G ρ σ H) : StepN C.toBs C.lim C.G0 C.H0 G H := by
  obtain ⟨u, h1, h2⟩ := r.used
  exact ⟨r.ent, h1.le (by omega)⟩
theorem RelN.capNow {n : Nat} (r : RelN C n G ρ σ H) : ∀ a g t, C.st = some (a, g) → TurnIs H a t → t + n ≤ capT := fun a g t e h => by
  obtain ⟨u, h1, h2⟩ := r.used
  obtain ⟨t0, h0⟩ := r.ent.ok0.turn e
  have q1 := h1 a g t0 t e h0 h
  have q2 := r.cap a g t0 e h0
  omega
/-- what is let out behind a counted step -/
theorem RelN.out {n : Nat} (r : RelN C n G ρ σ H) (s : StepN C.toBs n G H G' H') : StepN C.toBs C.lim C.G0 C.H0 G' H' := by
  obtain ⟨u, h1, h2⟩ := r.used
  exact ⟨r.ent.trans s.toStep, (h1.trans r.ok s.gr).le h2⟩
end
end DL
set_option Elab.async false
set_option linter.all false
set_option maxRecDepth 100000
set_option maxHeartbeats 4000000
namespace DL
open PySem PySem.Spec PyProof.Rows L2

/-! ## defs: promises kept where no text is being made (no guards) -/
structure FnG (P : Program) (w : World) (K : PySem.W.Frag) (mg : Str → Option Value) (base : Heap) (gd : Bool) (k : Nat) (f : Addr) (fd : FuncData) (ps : List Str) (sp : Sp) : Prop where
  len : ∀ vs H Q E, sp vs H Q E → vs.length = ps.length
  go : ∀ (A : Around) (out : List PySem.Env) (s : Shared) (H : Hp) (ar : Args) (us : List Value) (vs : List V) (Q : VK) (E : XK),
    (gd = true → A.guards = some []) → Room k A → Env0 P w K mg base A out s H → BindsTo s fd ar (ps.zip us) → Vals vs us → sp vs H Q E →
      codeAny (model P w) A (.call (.ref f) ar) (CR (CX P w) out P w H s Q E) s
section
variable {P : Program} {w : World} {K : PySem.W.Frag} {mg : Str → Option Value} {base : Heap} {gd : Bool} {k : Nat} {f : Addr} {fd : FuncData} {ps : List Str} {sp sp' : Sp}
theorem FnG.of (F : FnOk P w K mg base (CX P w) k f fd ps sp) : FnG P w K mg base gd k f fd ps sp :=
  ⟨F.len, fun A out s H ar us vs Q E _ hr e b v h => F.run A out s H ar us vs Q E hr e b v h⟩
theorem FnG.imp (F : FnG P w K mg base gd k f fd ps sp) (h : ∀ vs H Q E, sp' vs H Q E → sp vs H Q E) : FnG P w K mg base gd k f fd ps sp' :=
  ⟨fun _ _ _ _ q => F.len _ _ _ _ (h _ _ _ _ q), fun A out s H ar us vs Q E g hr e b v q => F.go A out s H ar us vs Q E g hr e b v (h _ _ _ _ q)⟩
theorem FnG.mono {j : Nat} (F : FnG P w K mg base gd j f fd ps sp) (h : j ≤ k) : FnG P w K mg base gd k f fd ps sp :=
  ⟨F.len, fun A out s H ar us vs Q E g hr e b v q => F.go A out s H ar us vs Q E g (hr.mono h) e b v q⟩
end
/-- the def st of the text, at f: its body's reading, chosen for each entry -/
theorem fng_of {P : Program} {w : World} {K : PySem.W.Frag} {mg : Str → Option Value} {base : Heap} {gd : Bool} {k : Nat} {f : Addr} {x qual : Str} {st : Stmt} {fd : FuncData} {N ps : List Str} {sp : Sp}
    (F : Fun K x qual st f fd) (S : FnScope N ps (defScope st)) (len : ∀ vs H Q E, sp vs H Q E → vs.length = ps.length)
    (body : ∀ (cdv : Value) (A : Around) (out : List PySem.Env) (s : Shared) (H : Hp) (vs : List V) (Q : VK) (E : XK), fd.code = cdv → (gd = true → A.guards = some []) → Room k (A.deeper (envOfC qual (defScope st) s.heap.objs.size f cdv)) → sp vs H Q E →
      ∃ t, PSs (cxOf (CX P w) P w K mg base N qual (defScope st) f cdv A out s H E) (defBody st) t ∧ t { nx := fun _ H' => Q .non H', rt := Q } (start N vs) H) :
    FnG P w K mg base gd (k + 1) f fd ps sp := by
  obtain ⟨oc, od, kV, doc, pm, an, cdv, ct, osl, efd, lk, hcd⟩ := F.ex
  subst efd
  refine ⟨len, fun A out s H ar us vs Q E hgu hr e0 hb rv hsp => ?_⟩
  have kin : K.In s.heap := e0.mod.kin.keeps (fun b o e => (e0.bs b o e).1)
  have nlim : s.heap.NoLimit := e0.mod.nolimit.keeps (fun b o e => (e0.bs b o e).1)
  have kinds : ∀ y ∈ ps.zip us, (defScope st).names.lookup y.1 = some .local ∨ ((defScope st).names.lookup y.1 = some .cell ∧ ((cellsFrom (s.heap.objs.size + 1) (defScope st).names []).lookup y.1).isSome = true) := by
    rintro ⟨n, v⟩ hy
    rcases S.par n (List.of_mem_zip hy).1 with q | q
    · exact .inl q
    · exact .inr ⟨q, PySem.W.cellsFrom_some _ _ _ (.inl q)⟩
  obtain ⟨t, ht, hq⟩ := body cdv A out s H vs Q E rfl hgu (hr.deeper _) hsp
  refine codeAny_call_function (hr.depth) (kin _ _ lk) rfl S.co S.gen rfl (PySem.W.codeRec_of kin hcd) (hb _ _ _ _ ?g)
  refine wpAny_newFunctionEnv_cells (S.kind) kinds (fun env henv s1 ic => ?_)
  subst henv
  refine ⟨nlim.keeps (ic.toInCall.keep), (codeAny_func ?_)⟩
  have I : Inv (cxOf (CX P w) P w K mg base N qual (defScope st) f cdv A out s H E) [] (start N vs) H s1 := inv_start (S := S) hr.hd e0 (len _ _ _ _ hsp) rv ic
  refine wpAny_mono (ht.run [] s1 (start N vs) H _ I hq) (fun fl s' hs => ?_) (fun _ _ z => z)
  cases fl with
  | ret u =>
    obtain ⟨v, σ', H', J, r, q⟩ := hs
    exact ⟨v, H', J.os, J.bare, J.base, J.hok, r, q⟩
  | next =>
    obtain ⟨σ', H', J, q⟩ := hs
    exact ⟨.non, H', J.os, J.bare, J.base, J.hok, rfl, q⟩
  | brk => exact (hs.choose_spec.choose_spec.2 : False).elim
  | cont => exact (hs.choose_spec.choose_spec.2 : False).elim

/-! ## readings upon the mathematics' values -/
abbrev W1 := Env → (SV → Prop) → (Str → Prop) → Prop
abbrev WB := Env → (Bool → Prop) → (Str → Prop) → Prop
abbrev WA := Env → (List SV → Prop) → (Str → Prop) → Prop
def TD (C : Cn) (c : Nat) (f : W1) : TE := fun σ H Q => ∃ G ρ P, RelN C c G ρ σ H ∧ f ρ P C.ex ∧ ∀ sv v G' H', P sv → StepN C.toBs c G H G' H' → IsR C.toBs H G' H' v sv → Q v H'
def TDT (C : Cn) (c : Nat) (f : WB) : TT := fun σ H Q => ∃ G ρ P, RelN C c G ρ σ H ∧ f ρ P C.ex ∧ ∀ b G' H', P b → StepN C.toBs c G H G' H' → Q b H'
inductive IsVs (B : Bs) (G H : Hp) : List V → List SV → Prop
  | nil : IsVs B G H [] []
  | cons {v : V} {s : SV} {vs : List V} {ss : List SV} : IsV B G H v s → (∀ k x, s ≠ .fr k x) → (∀ k x, s ≠ .own k x) → IsVs B G H vs ss → IsVs B G H (v :: vs) (s :: ss)
def TDA (C : Cn) (c : Nat) (n : Nat) (f : WA) : TA := fun σ H Q => ∃ G ρ P, RelN C c G ρ σ H ∧ f ρ P C.ex ∧ ∀ ss vs G' H', P ss → ss.length = n → StepN C.toBs c G H G' H' → IsVs C.toBs G' H' vs ss → Q vs H'
def DE (X : Cx) (C : Cn) (c : Nat) (e : Expr) (f : W1) : Prop := PE X e (TD C c f)
def DT (X : Cx) (C : Cn) (c : Nat) (e : Expr) (f : WB) : Prop := PT X e (TDT C c f)
def DW (X : Cx) (C : Cn) (c : Nat) (e : Expr) (f : WB) : Prop := PW X e (TDT C c f)
def DA (X : Cx) (C : Cn) (c : Nat) (es : List Expr) (f : WA) : Prop := PA X es (TDA C c es.length f)

section
variable {X : Cx} {e : Expr} {es : List Expr}
theorem PE.imp {t t' : TE} (h : PE X e t) (i : ∀ σ H Q, t' σ H Q → t σ H Q) : PE X e t' := ⟨fun p s σ H Q I q => h.run p s σ H Q I (i σ H Q q)⟩
theorem PT.imp {t t' : TT} (h : PT X e t) (i : ∀ σ H Q, t' σ H Q → t σ H Q) : PT X e t' := ⟨fun p s σ H Q I q => h.run p s σ H Q I (i σ H Q q)⟩
theorem PW.imp {t t' : TT} (h : PW X e t) (i : ∀ σ H Q, t' σ H Q → t σ H Q) : PW X e t' := ⟨fun wh p s σ H Q I q => h.run wh p s σ H Q I (i σ H Q q)⟩
theorem PA.imp {t t' : TA} (h : PA X es t) (i : ∀ σ H Q, t' σ H Q → t σ H Q) : PA X es t' := ⟨fun po p s σ H Q I q => h.run po p s σ H Q I (i σ H Q q)⟩
theorem PS.imp {st : Stmt} {t t' : TS} (h : PS X st t) (i : ∀ D σ H, t' D σ H → t D σ H) : PS X st t' := ⟨fun p s σ H D I q => h.run p s σ H D I (i D σ H q)⟩
theorem PSs.imp {st : List Stmt} {t t' : TS} (h : PSs X st t) (i : ∀ D σ H, t' D σ H → t D σ H) : PSs X st t' := ⟨fun p s σ H D I q => h.run p s σ H D I (i D σ H q)⟩
end
section
variable {B : Bs} {G H G1 H1 G2 H2 G' H' : Hp} {v : V} {s : SV} {x : D}
theorem IsR.d {k : Bool} (h : Is B.K k G' v x) : IsR B H G' H' v (.d k x) := ⟨h, fun _ _ e => nomatch e⟩
theorem IsR.low (h : IsR B H1 G' H' v s) (st : Step B G H G1 H1) : IsR B H G' H' v s := ⟨h.1, fun k x e p q => st.dom (h.2 k x e p q)⟩
theorem IsR.lower {n : Nat} (h : IsR B H1 G' H' v s) (st : StepN B n G H G1 H1) : IsR B H G' H' v s := h.low st.toStep
theorem IsVs.step {n : Nat} {vs : List V} {ss : List SV} (h : IsVs B G H vs ss) (st : StepN B n G H G' H') : IsVs B G' H' vs ss := by
  induction h with
  | nil => exact .nil
  | cons a n n' _ ih => exact .cons (a.step st) n n' ih
theorem IsVs.length {vs : List V} {ss : List SV} (h : IsVs B G H vs ss) : vs.length = ss.length := by
  induction h with
  | nil => rfl
  | cons a n n' _ ih => rw [List.length_cons, List.length_cons, ih]
end

/-! ### names, constants -/
def getE : Env → Nat → (SV → Prop) → Prop
  | [], _, _ => False
  | none :: _, 0, _ => False
  | some s :: _, 0, P => P s
  | _ :: r, n + 1, P => getE r n P
theorem getE_some : ∀ {ρ : Env} {i : Nat} {P : SV → Prop}, getE ρ i P → ∃ s, ρ[i]? = some (some s) ∧ P s
  | [], _, _, h => h.elim
  | none :: _, 0, _, h => h.elim
  | some s :: _, 0, _, h => ⟨s, rfl, h⟩
  | none :: r, n + 1, P, h => by
    obtain ⟨s, e, p⟩ := getE_some (ρ := r) (i := n) (P := P) h
    exact ⟨s, by simpa using e, p⟩
  | some _ :: r, n + 1, P, h => by
    obtain ⟨s, e, p⟩ := getE_some (ρ := r) (i := n) (P := P) h
    exact ⟨s, by simpa using e, p⟩
section
variable {X : Cx} {C : Cn} {pos : Pos}
theorem de_var (i : Nat) {x : Str} (hN : X.N[i]? = some x := by rfl) (hv : Vis X.env.scope x := by first | exact Or.inl rfl | exact Or.inr (Or.inl rfl) | exact Or.inr (Or.inr rfl)) (hd : (x == ("__debug__" : Str)) = false := by decide)
    (hcd : (x == ("__classdict__" : Str)) = false := by decide) : DE X C 0 (.Name x pos) (fun ρ P _ => getE ρ i P) := by
  refine PE.imp (pe_var hN hv hd hcd) ?_
  rintro σ H Q ⟨G, ρ, P, R, h, k⟩
  obtain ⟨s, e, p⟩ := getE_some h
  obtain ⟨v, e1, q, nf⟩ := R.get e
  exact ⟨v, e1, k s v G H p (StepN.refl R.ok) ⟨q, fun k x z => absurd z (nf k x)⟩⟩
theorem td_const {v : V} {d : D} {kk : Bool} (h : ∀ G, Is C.K kk G v d) : ∀ σ H Q, TD C 0 (fun _ P _ => P (.d kk d)) σ H Q → tC v σ H Q := by
  rintro σ H Q ⟨G, ρ, P, R, h', k⟩
  exact k _ v G H h' (StepN.refl R.ok) (.d (h G))
theorem de_int {i : Int} {j} : DE X C 0 (.Constant (.int i) j pos) (fun _ P _ => P (.d false (.int i))) := PE.imp pe_int (td_const fun _ => .int i)
theorem de_bool {i : Bool} {j} : DE X C 0 (.Constant (.bool i) j pos) (fun _ P _ => P (.d false (.bool i))) := PE.imp pe_bl (td_const fun _ => .bl i)
theorem de_none {j} : DE X C 0 (.Constant .none j pos) (fun _ P _ => P (.d false .none)) := PE.imp pe_non (td_const fun _ => .non)
theorem de_str {x : Str} {j} : DE X C 0 (.Constant (.str x) j pos) (fun _ P _ => P (.d false (.str x))) := PE.imp pe_str (td_const fun _ => .str x)
/-- a constant of the module -/
def GlobD (K : PySem.W.Frag) (mg : Str → Option Value) (x : Str) (k : Bool) (d : D) : Prop := ∃ (v : V) (u : Value), mg x = some u ∧ RelV v u ∧ ∀ G, Is K k G v d
theorem de_glob {x : Str} {d : D} {kk : Bool} (xc : XC X C) (g : GlobD X.K X.mg x kk d) (hg : Gl X x := by rfl) (hd : (x == ("__debug__" : Str)) = false := by decide) : DE X C 0 (.Name x pos) (fun _ P _ => P (.d kk d)) := by
  obtain ⟨v, u, m, r, h⟩ := g
  exact PE.imp (pe_glob hg m r hd) (td_const fun G => by rw [← xc.K]; exact h G)
end

/-! ### two-place operations -/
abbrev O2 := SV → SV → (SV → Prop) → Prop
def rD (C : Cn) (h : O2) : R2 := fun x y H Q => ∃ G a b P, WOk C.toBs G H ∧ IsV C.toBs G H x a ∧ IsV C.toBs G H y b ∧ h a b P ∧ ∀ sv v G' H', P sv → StepN C.toBs 0 G H G' H' → IsR C.toBs H G' H' v sv → Q v H'
def DOp (X : Cx) (C : Cn) (g : Value → Value → Sem Value) (h : O2) : Prop := OpR X g (rD C h)
abbrev bin2 (h : O2) (fa fb : W1) : W1 := fun ρ P E => fa ρ (fun x => fb ρ (fun y => h x y P) E) E
theorem td_bin {C : Cn} {c1 c2 : Nat} {h : O2} {fa fb : W1} : ∀ σ H Q, TD C (c1 + c2) (bin2 h fa fb) σ H Q → tOp (rD C h) (TD C c1 fa) (TD C c2 fb) σ H Q := by
  rintro σ H Q ⟨G, ρ, P, R, hf, k⟩
  refine ⟨G, ρ, _, R.l, hf, fun a x G1 H1 hb S1 V1 => ⟨G1, ρ, _, R.next S1, hb, fun b y G2 H2 hh S2 V2 => ?_⟩⟩
  exact ⟨G2, a, b, P, S2.ok, V1.1.step S2, V2.1, hh, fun sv v G3 H3 p S3 V3 => k sv v G3 H3 p (S1.trans (S2.trans S3)) (V3.lower (S1.trans S2))⟩
section
variable {X : Cx} {C : Cn} {pos : Pos} {a b : Expr} {fa fb : W1} {h : O2} {c1 c2 c3 : Nat}
theorem de_bin {op : Operator} (ho : DOp X C (binaryOp op) h) (ha : DE X C c1 a fa) (hb : DE X C c2 b fb) : DE X C (c1 + c2) (.BinOp a op b pos) (bin2 h fa fb) := PE.imp (pe_op ho ha hb) td_bin
theorem de_cmp {op : CmpOp} (ho : DOp X C (compareOp op) h) (ha : DE X C c1 a fa) (hb : DE X C c2 b fb) (hm : behindInMarks op b = false := by first | exact nomark _ | rfl | with_unfolding_all rfl) : DE X C (c1 + c2) (.Compare a [op] [b] pos) (bin2 h fa fb) := PE.imp (pe_cmpR ho ha hb hm) td_bin
def boolP (s : SV) (P : Bool → Prop) : Prop := match s with
  | .d _ (.bool b) => P b
  | _ => False
theorem boolP_some {s : SV} {P : Bool → Prop} (h : boolP s P) : ∃ k b, s = .d k (.bool b) ∧ P b := by
  match s, h with
  | .d k (.bool b), h => exact ⟨k, b, rfl, h⟩
theorem dt_cmp {op : CmpOp} (ho : DOp X C (compareOp op) h) (ha : DE X C c1 a fa) (hb : DE X C c2 b fb) (hm : behindInMarks op b = false := by first | exact nomark _ | rfl | with_unfolding_all rfl) :
    DT X C (c1 + c2) (.Compare a [op] [b] pos) (fun ρ P E => bin2 h fa fb ρ (fun s => boolP s P) E) := by
  refine PT.imp (pt_cmpR ho ha hb hm) ?_
  rintro σ H Q ⟨G, ρ, P, R, hf, k⟩
  refine td_bin (c1 := c1) (c2 := c2) σ H _ ⟨G, ρ, _, R, hf, fun sv v G' H' p S V => ?_⟩
  obtain ⟨_, b, rfl, q⟩ := boolP_some p
  obtain ⟨V, _⟩ := V
  cases V
  exact ⟨b, rfl, k b G' H' q S⟩
abbrev chain2 (h h' : O2) (fa fb fc : W1) : W1 := fun ρ P E => fa ρ (fun x => fb ρ (fun y => h x y (fun s => boolP s fun t => if t = true then fc ρ (fun z => h' y z P) E else P (.d false (.bool false)))) E) E
theorem de_chain {c : Expr} {fc : W1} {h' : O2} {op op' : CmpOp} (ho : DOp X C (compareOp op) h) (ho' : DOp X C (compareOp op') h') (ha : DE X C c1 a fa) (hb : DE X C c2 b fb) (hc : DE X C c3 c fc)
    (hm : lastMarks [op, op'] [b, c] = false := by with_unfolding_all rfl) : DE X C (c1 + (c2 + c3)) (.Compare a [op, op'] [b, c] pos) (chain2 h h' fa fb fc) := by
  refine PE.imp (pe_chain ho ho' ha hb hc hm) ?_
  rintro σ H Q ⟨G, ρ, P, R, hf, k⟩
  refine ⟨G, ρ, _, R.l, hf, fun a x G1 H1 hb S1 V1 => ⟨G1, ρ, _, (R.next S1).l, hb, fun b y G2 H2 hh S2 V2 => ?_⟩⟩
  refine ⟨G2, a, b, _, S2.ok, V1.1.step S2, V2.1, hh, fun sv v G3 H3 p S3 V3 => ?_⟩
  obtain ⟨_, t, rfl, q⟩ := boolP_some p
  obtain ⟨V3, _⟩ := V3
  cases V3
  refine ⟨t, rfl, ?_⟩
  cases t with
  | false => exact k _ _ G3 H3 q ((S1.trans (S2.trans S3)).le (by omega)) (.d (.bl false))
  | true =>
    rw [if_pos rfl] at q ⊢
    refine ⟨G3, ρ, _, (R.next S1).next (S2.trans S3), q, fun c z G4 H4 hh4 S4 V4 => ?_⟩
    exact ⟨G4, b, c, P, S4.ok, (V2.1.step S3).step S4, V4.1, hh4, fun sv v G5 H5 p S5 V5 => k sv v G5 H5 p ((S1.trans (S2.trans (S3.trans (S4.trans S5)))).le (by omega)) (V5.lower (S1.trans (S2.trans (S3.trans S4))))⟩
end
/-! the helper by which most operations are shown: a value at hand -/
section
variable {C : Cn} {G H : Hp} {P : SV → Prop} {Q : VK} {k : Bool}
def Kont (C : Cn) (H G : Hp) (P : SV → Prop) (Q : VK) : Prop := ∀ sv v G' H', P sv → StepN C.toBs 0 G H G' H' → IsR C.toBs H G' H' v sv → Q v H'
theorem rD_ret (w : WOk C.toBs G H) (kt : Kont C H G P Q) {d : D} {v : V} (p : P (.d k d)) (i : Is C.K k G v d) : Q v H :=
  kt _ v G H p (StepN.refl w) (.d i)
theorem rD_fr (w : WOk C.toBs G H) (kt : Kont C H G P Q) {ds : List D} {vs : List V} (p : P (.fr k (.list ds))) (l : vs.length ≤ sizeLine) (i : IsL C.K k G vs ds) : ∀ a, H a = none → Q (.ref a) (upd H a (.lst vs)) := fun a n =>
  kt _ _ G _ p (StepN.alloc w n) ⟨⟨a, rfl, w.notHid (fr0_none n), w.noG n, vs, upd_same, l, i⟩, fun _ _ _ q e => by cases e; exact fr0_none n⟩
theorem rD_tup (w : WOk C.toBs G H) (kt : Kont C H G P Q) {ds : List D} {vs : List V} (p : P (.d k (.tuple ds))) (l : vs.length ≤ sizeLine) (i : IsL C.K k G vs ds) : ∀ a, H a = none → Q (.ref a) (upd H a (.tup vs)) := fun a n =>
  kt _ _ (upd G a (.tup vs)) _ p (StepN.allocG w n rfl) (.d (.tup upd_same l (i.mono (same_upd (w.noG n)))))
theorem rD_frD (w : WOk C.toBs G H) (kt : Kont C H G P Q) {kds : List (D × D)} {kvs : List (Key × V)} (p : P (.fr k (.dict kds))) (i : IsD C.K k G kvs kds) : ∀ a, H a = none → Q (.ref a) (upd H a (.dK kvs)) := fun a n =>
  kt _ _ G _ p (StepN.alloc w n) ⟨⟨a, rfl, w.notHid (fr0_none n), w.noG n, .inl ⟨kvs, upd_same, i⟩⟩, fun _ _ _ q e => by cases e; exact fr0_none n⟩
theorem rD_frDT (w : WOk C.toBs G H) (kt : Kont C H G P Q) {kds : List (D × D)} {kvs : List (List Key × V)} (p : P (.fr k (.dict kds))) (i : IsDT C.K k G kvs kds) : ∀ a, H a = none → Q (.ref a) (upd H a (.dT kvs)) := fun a n =>
  kt _ _ G _ p (StepN.alloc w n) ⟨⟨a, rfl, w.notHid (fr0_none n), w.noG n, .inr ⟨kvs, upd_same, i⟩⟩, fun _ _ _ q e => by cases e; exact fr0_none n⟩
end
/-! views -/
def flg : SV → Bool
  | .d k _ => k
  | .own k _ => k
  | .fr k _ => k
  | _ => false
def dat : SV → Option D
  | .d _ x => some x
  | .own _ x => some x
  | .fr _ x => some x
  | _ => none
def lvD : D → Option (List D)
  | .list xs => some xs
  | _ => none
def lv (s : SV) : Option (List D) := match s with
  | .d _ (.list xs) => some xs
  | .own _ (.list xs) => some xs
  | .fr _ (.list xs) => some xs
  | _ => none
def tv (s : SV) : Option (List D) := match s with
  | .d _ (.tuple xs) => some xs
  | .own _ (.tuple xs) => some xs
  | .fr _ (.tuple xs) => some xs
  | _ => none
def dv (s : SV) : Option (List (D × D)) := match s with
  | .d _ (.dict xs) => some xs
  | .own _ (.dict xs) => some xs
  | .fr _ (.dict xs) => some xs
  | _ => none
section
variable {B : Bs} {G H : Hp} {s : SV} {v : V} {xs : List D} {kds : List (D × D)}
theorem lv_is (h : lv s = some xs) (w : WOk B G H) (i : IsV B G H v s) : ∃ p vs, v = .ref p ∧ H p = some (.lst vs) ∧ IsL B.K (flg s) G vs xs ∧ vs.length ≤ sizeLine := by
  match s, h, i with
  | .d k (.list ys), h, i =>
    cases h
    cases i with
    | lst h l r => exact ⟨_, _, rfl, w.sub _ _ h, r, l⟩
  | .own k (.list ys), h, ⟨p, e, _, vs, q, l, r⟩ => cases h; exact ⟨p, vs, e, q, r, l⟩
  | .fr k (.list ys), h, ⟨p, e, _, _, vs, q, l, r⟩ => cases h; exact ⟨p, vs, e, q, r, l⟩
theorem tv_is (h : tv s = some xs) (w : WOk B G H) (i : IsV B G H v s) : ∃ p vs, v = .ref p ∧ SqT B.K H p vs ∧ IsL B.K (flg s) G vs xs ∧ (flg s = false → H p = some (.tup vs)) ∧ vs.length ≤ sizeLine := by
  match s, h, i with
  | .d k (.tuple ys), h, i =>
    cases h
    cases i with
    | tup h l r => exact ⟨_, _, rfl, SqT.of (w.sub _ _ h), r, fun _ => w.sub _ _ h, l⟩
    | tupK q h l r => exact ⟨_, _, rfl, SqT.same w.sub h, r, fun e => (by have e : k = false := e; rw [q] at e; cases e), l⟩
  | .own k (.tuple ys), h, ⟨p, e, _, z, ob, vs, q, _, _, l, r⟩ => cases h; exact ⟨p, vs, e, .inl (.inr ⟨ob, q⟩), r, fun e => (by have e : k = false := e; rw [z] at e; cases e), l⟩
  | .fr k (.tuple ys), h, ⟨p, e, _, _, z, ob, vs, q, _, _, l, r⟩ => cases h; exact ⟨p, vs, e, .inl (.inr ⟨ob, q⟩), r, fun e => (by have e : k = false := e; rw [z] at e; cases e), l⟩
theorem dv_is (h : dv s = some kds) (w : WOk B G H) (i : IsV B G H v s) : ∃ p, v = .ref p ∧ ((∃ kvs, Rd H p (.dK kvs) ∧ IsD B.K (flg s) G kvs kds) ∨ ∃ kvs, H p = some (.dT kvs) ∧ IsDT B.K (flg s) G kvs kds) := by
  match s, h, i with
  | .d k (.dict ys), h, i =>
    cases h
    cases i with
    | dct h r => exact ⟨_, rfl, .inl ⟨_, Rd.same w.sub h, r⟩⟩
    | dctT h r => exact ⟨_, rfl, .inr ⟨_, w.sub _ _ h, r⟩⟩
  | .own k (.dict ys), h, ⟨p, e, _, q⟩ =>
    cases h
    rcases q with ⟨vs, q, r⟩ | ⟨vs, q, r⟩
    · exact ⟨p, e, .inl ⟨vs, .of q, r⟩⟩
    · exact ⟨p, e, .inr ⟨vs, q, r⟩⟩
  | .fr k (.dict ys), h, ⟨p, e, _, _, q⟩ =>
    cases h
    rcases q with ⟨vs, q, r⟩ | ⟨vs, q, r⟩
    · exact ⟨p, e, .inl ⟨vs, .of q, r⟩⟩
    · exact ⟨p, e, .inr ⟨vs, q, r⟩⟩
/-- as data at the heap of all that is tracked -/
theorem dat_is {d : D} (h : dat s = some d) (w : WOk B G H) (i : IsV B G H v s) : Is B.K (flg s) H v d := by
  match s, h, i with
  | .d k x, h, i => cases h; exact Is.mono w.sub i
  | .own k x, h, ⟨p, e, _, q⟩ =>
    cases h; subst e
    cases d with
    | list ds => obtain ⟨vs, q, l, r⟩ := q; exact .lst q l (r.mono w.sub)
    | dict kds =>
      rcases q with ⟨vs, q, r⟩ | ⟨vs, q, r⟩
      · exact .dct (.of q) (r.mono w.sub)
      · exact .dctT q (r.mono w.sub)
    | tuple ds => obtain ⟨z, ob, vs, q, _, _, l, r⟩ := q; exact .tupK z (.inl (.inr ⟨ob, q⟩)) l (r.mono w.sub)
    | _ => exact q.elim
  | .fr k x, h, ⟨p, e, _, _, q⟩ =>
    cases h; subst e
    cases d with
    | list ds => obtain ⟨vs, q, l, r⟩ := q; exact .lst q l (r.mono w.sub)
    | dict kds =>
      rcases q with ⟨vs, q, r⟩ | ⟨vs, q, r⟩
      · exact .dct (.of q) (r.mono w.sub)
      · exact .dctT q (r.mono w.sub)
    | tuple ds => obtain ⟨z, ob, vs, q, _, _, l, r⟩ := q; exact .tupK z (.inl (.inr ⟨ob, q⟩)) l (r.mono w.sub)
    | _ => exact q.elim
end
end DL
set_option Elab.async false
set_option linter.all false
set_option maxRecDepth 100000
set_option maxHeartbeats 1000000
namespace DL
open PySem PySem.Spec PyProof.Rows L2
/-! ## reads -/
section
variable {X : Cx} {pins : List (Addr × Obj)} {σ : L2.St} {H : Hp} {s : Shared}
mutual
theorem Is.reads {k : Bool} (I : Inv X pins σ H s) : ∀ (d : D) (v : V) (u : Value), d.canLay0 = true → Is X.K k H v d → RelV v u → ∃ as, Reads s.heap u d as
  | .none, _, _, _, h, r => by cases h; cases r; exact ⟨_, .none⟩
  | .bool b, _, _, _, h, r => by cases h; cases r; exact ⟨_, .bool b⟩
  | .int i, _, _, _, h, r => by cases h; obtain ⟨t, rfl⟩ := r; exact ⟨_, .int i t⟩
  | .str x, _, _, _, h, r => by cases h; obtain ⟨t, rfl⟩ := r; exact ⟨_, .str x t⟩
  | .list ds, _, _, c, h, r => by
    cases h with
    | lst hs _ ha =>
      cases r
      obtain ⟨its, rv, ⟨o, n, h1, h2, _, h3⟩, _⟩ := I.list (SqL.of hs)
      obtain ⟨as, q⟩ := IsL.reads I ds _ its (by simpa [PyData.canLay0] using c) ha rv
      exact ⟨_, .list h1 h2 h3 q⟩
  | .tuple ds, _, _, c, h, r => by
    cases h with
    | tup hs _ ha =>
      cases r
      obtain ⟨its, rv, ⟨o, h1, h2, n, h3⟩, _⟩ := I.tuple (SqT.of hs)
      obtain ⟨as, q⟩ := IsL.reads I ds _ its (by simpa [PyData.canLay0] using c) ha rv
      exact ⟨_, .tuple h1 h2 h3 q⟩
    | tupK _ hs _ ha =>
      cases r
      obtain ⟨its, rv, ⟨o, h1, h2, n, h3⟩, _⟩ := I.tuple hs
      obtain ⟨as, q⟩ := IsL.reads I ds _ its (by simpa [PyData.canLay0] using c) ha rv
      exact ⟨_, .tuple h1 h2 h3 q⟩
  | .dict _, _, _, c, _, _ => by simp [PyData.canLay0] at c
theorem IsL.reads {k : Bool} (I : Inv X pins σ H s) : ∀ (ds : List D) (vs : List V) (us : List Value), PyData.canLayAll0 ds = true → IsL X.K k H vs ds → Vals vs us → ∃ as, ReadsAll s.heap us ds as
  | [], _, _, _, h, r => by cases h; cases r; exact ⟨_, .nil⟩
  | d :: ds, _, _, c, h, r => by
    have c' : d.canLay0 = true ∧ PyData.canLayAll0 ds = true := by simpa [PyData.canLayAll0] using c
    cases h with
    | cons a b =>
      cases r with
      | cons r1 r2 =>
        obtain ⟨as, q1⟩ := Is.reads I d _ _ c'.1 a r1
        obtain ⟨bs, q2⟩ := IsL.reads I ds _ _ c'.2 b r2
        exact ⟨_, .cons q1 q2⟩
end
end

/-! ## operations on numbers -/
section
variable {X : Cx} {C : Cn}
/-- two ints, under c -/
def arW (c : Int → Int → Prop) (g : Int → Int → Int) : O2 := fun a b P => match a, b with
  | .d _ (.int i), .d _ (.int j) => c i j ∧ P (.d false (.int (g i j)))
  | _, _ => False
theorem arW_some {c : Int → Int → Prop} {g : Int → Int → Int} {a b : SV} {P : SV → Prop} (h : arW c g a b P) : ∃ k k' i j, a = .d k (.int i) ∧ b = .d k' (.int j) ∧ c i j ∧ P (.d false (.int (g i j))) := by
  match a, b, h with
  | .d k (.int i), .d k' (.int j), h => exact ⟨k, k', i, j, rfl, rfl, h⟩
theorem dop_ar {g : Value → Value → Sem Value} {c : Int → Int → Prop} {f : Int → Int → Int} (o : OpR X g (rI c fun i j => .int (f i j))) : DOp X C g (arW c f) := by
  intro pins s σ H x y v u Q I rx ry h
  obtain ⟨G, a, b, P, w, ia, ib, h, k⟩ := h
  obtain ⟨k1, k2, i, j, rfl, rfl, hc, p⟩ := arW_some h
  cases ia; cases ib
  exact o pins s σ H _ _ v u Q I rx ry ⟨i, j, rfl, rfl, hc, rD_ret w k p (.int _)⟩
abbrev yes2 : Int → Int → Prop := fun _ _ => True
theorem dop_ar0 {g : Value → Value → Sem Value} {f : Int → Int → Int} (o : OpR X g (rI0 fun i j => .int (f i j))) : DOp X C g (arW yes2 f) := by
  refine dop_ar fun pins s σ H x y v u Q I rx ry h => ?_
  obtain ⟨i, j, e1, e2, _, q⟩ := h
  exact o pins s σ H x y v u Q I rx ry ⟨i, j, e1, e2, q⟩
def cmW (g : Int → Int → Bool) : O2 := fun a b P => match a, b with
  | .d _ (.int i), .d _ (.int j) => P (.d false (.bool (g i j)))
  | _, _ => False
theorem dop_cm {g : Value → Value → Sem Value} {f : Int → Int → Bool} (o : OpR X g (rI0 fun i j => .bl (f i j))) : DOp X C g (cmW f) := by
  intro pins s σ H x y v u Q I rx ry h
  obtain ⟨G, a, b, P, w, ia, ib, h, k⟩ := h
  unfold cmW at h
  split at h
  · cases ia; cases ib
    exact o pins s σ H _ _ v u Q I rx ry ⟨_, _, rfl, rfl, rD_ret w k h (.bl _)⟩
  · exact h.elim
def subW : O2 := arW yes2 fun i j => i - j
theorem dop_sub : DOp X C (binaryOp .Sub) subW := dop_ar0 op_sub
def modW : O2 := arW (fun _ j => j ≠ 0) fun i j => i.fmod j
theorem dop_mod : DOp X C (binaryOp .Mod) modW := dop_ar op_modN
def fdivW : O2 := arW CDivN fun i j => i.fdiv j
theorem dop_fdiv : DOp X C (binaryOp .FloorDiv) fdivW := dop_ar op_fdivN
def powW : O2 := arW CPow fun i j => i ^ j.toNat
theorem dop_pow : DOp X C (binaryOp .Pow) powW := dop_ar op_pow
def shlW : O2 := arW CPow fun i j => i * 2 ^ j.toNat
theorem dop_shl : DOp X C (binaryOp .LShift) shlW := dop_ar op_shl
def shrW : O2 := arW (fun _ j => 0 ≤ j) fun i j => i / 2 ^ j.toNat
theorem dop_shr : DOp X C (binaryOp .RShift) shrW := by
  refine dop_ar fun pins s σ H x y v u Q I rx ry h => ?_
  exact op_shr pins s σ H x y v u Q I rx ry h
def ltW : O2 := cmW fun i j => decide (i < j)
theorem dop_lt : DOp X C (compareOp .Lt) ltW := dop_cm op_lt
def leW : O2 := cmW fun i j => decide (i ≤ j)
theorem dop_le : DOp X C (compareOp .LtE) leW := dop_cm op_le
def gtW : O2 := cmW fun i j => decide (j < i)
theorem dop_gt : DOp X C (compareOp .Gt) gtW := dop_cm op_gt
def geW : O2 := cmW fun i j => decide (j ≤ i)
theorem dop_ge : DOp X C (compareOp .GtE) geW := dop_cm op_ge
/-- + of ints, texts, lists, tuples -/
def addW : O2 := fun a b P => match a, b with
  | .d _ (.int i), .d _ (.int j) => P (.d false (.int (i + j)))
  | .d _ (.str i), .d _ (.str j) => i.length + j.length ≤ sizeLine ∧ P (.d false (.str (i ++ j)))
  | .d k (.tuple xs), .d k' (.tuple ys) => xs.length + ys.length ≤ sizeLine ∧ P (.d (k || k') (.tuple (xs ++ ys)))
  | a, b => match lv a, lv b with
    | some xs, some ys => xs.length + ys.length ≤ sizeLine ∧ P (.fr (flg a || flg b) (.list (xs ++ ys)))
    | _, _ => False
theorem dop_add (xc : XC X C) : DOp X C (binaryOp .Add) addW := by
  intro pins s σ H x y v u Q I rx ry h
  obtain ⟨G, a, b, P, w, ia, ib, h, kt⟩ := h
  unfold addW at h
  split at h
  · cases ia; cases ib
    exact op_add pins s σ H _ _ v u Q I rx ry ⟨_, _, rfl, rfl, rD_ret w kt h (.int _)⟩
  · cases ia; cases ib
    exact op_add_str pins s σ H _ _ v u Q I rx ry ⟨_, _, rfl, rfl, h.1, rD_ret w kt h.2 (.str _)⟩
  · rename_i k xs k' ys
    obtain ⟨h2, p⟩ := h
    obtain ⟨p1, vs, rfl, s1, i1, _, z1⟩ := tv_is (s := .d k (.tuple xs)) rfl w ia
    obtain ⟨p2, ws, rfl, s2, i2, _, z2⟩ := tv_is (s := .d k' (.tuple ys)) rfl w ib
    have l1 := i1.length
    have l2 := i2.length
    have o : OpR X (binaryOp .Add) (rCatA C.K) := by rw [← xc.K]; exact op_catA
    have i3 : IsL C.K (k || k') G (vs ++ ws) (xs ++ ys) := (i1.k or_l).append (i2.k or_r)
    refine o pins s σ H _ _ v u Q I rx ry ⟨p1, p2, vs, ws, rfl, rfl, s1, s2, by omega, ?_, ?_, ?_⟩
    · rintro rfl
      rw [List.length_nil] at l1
      have e := List.length_eq_zero_iff.mp l1.symm
      subst e
      exact rD_ret w kt p (Is.k or_r ib)
    · rintro _ rfl
      rw [List.length_nil] at l2
      have e := List.length_eq_zero_iff.mp l2.symm
      subst e
      rw [List.append_nil] at p
      exact rD_ret w kt p (Is.k or_l ia)
    · intro _ _
      exact rD_tup w kt p (by rw [List.length_append]; omega) i3
  · split at h
    · rename_i xs ys e1 e2
      obtain ⟨p1, vs, rfl, h1, i1, z1⟩ := lv_is e1 w ia
      obtain ⟨p2, ws, rfl, h2, i2, z2⟩ := lv_is e2 w ib
      exact op_cat pins s σ H _ _ v u Q I rx ry ⟨p1, p2, vs, ws, rfl, rfl, h1, h2, by rw [i1.length, i2.length]; exact h.1, rD_fr w kt h.2 (by rw [List.length_append, i1.length, i2.length]; exact h.1) ((i1.k or_l).append (i2.k or_r))⟩
    · exact h.elim
/-- * of ints, of a list and an int -/
def mulW : O2 := fun a b P => match a, b with
  | .d _ (.int i), .d _ (.int j) => CMul i j ∧ P (.d false (.int (i * j)))
  | a, .d _ (.int n) => match lv a with
    | some xs => -(2 ^ 63) ≤ n ∧ n < 2 ^ 63 ∧ xs.length * n.toNat ≤ sizeLine ∧ P (.fr (flg a) (.list (List.replicate n.toNat xs).flatten))
    | none => False
  | _, _ => False
theorem IsL.rep {K : PySem.W.Frag} {k : Bool} {H : Hp} {vs : List V} {ds : List D} (h : IsL K k H vs ds) : ∀ n : Nat, IsL K k H (List.replicate n vs).flatten (List.replicate n ds).flatten
  | 0 => .nil
  | n + 1 => by
    rw [List.replicate_succ, List.replicate_succ, List.flatten_cons, List.flatten_cons]
    exact h.append (h.rep n)
theorem dop_mul : DOp X C (binaryOp .Mult) mulW := by
  intro pins s σ H x y v u Q I rx ry h
  obtain ⟨G, a, b, P, w, ia, ib, h, kt⟩ := h
  unfold mulW at h
  split at h
  · cases ia; cases ib
    exact op_mul pins s σ H _ _ v u Q I rx ry ⟨_, _, rfl, rfl, h.1, rD_ret w kt h.2 (.int _)⟩
  · split at h
    · rename_i xs e1
      obtain ⟨p1, vs, rfl, h1, i1, z1⟩ := lv_is e1 w ia
      cases ib
      exact op_rep pins s σ H _ _ v u Q I rx ry ⟨p1, _, vs, rfl, rfl, h1, h.1, h.2.1, by rw [i1.length]; exact h.2.2.1, rD_fr w kt h.2.2.2 (by rw [(i1.rep _).length, List.length_flatten, List.map_replicate, List.sum_replicate_nat, Nat.mul_comm]; exact h.2.2.1) (i1.rep _)⟩
    · exact h.elim
  · exact h.elim
/-! ### == -/
/-- data of which == is known -/
def eqOk (x y : D) : Bool := match x, y with
  | .none, .none => true | .none, .int _ => true | .int _, .none => true | .none, .bool _ => true | .bool _, .none => true | .none, .str _ => true | .str _, .none => true
  | .int _, .int _ => true | .bool _, .bool _ => true | .str _, .str _ => true
  | .int _, .str _ => true | .str _, .int _ => true | .bool _, .str _ => true | .str _, .bool _ => true
  | x, y => SeqAt.shaped x && SeqAt.shaped y
def eqW (g : Bool → Bool) : O2 := fun a b P => match dat a, dat b with
  | some x, some y => eqOk x y = true ∧ P (.d false (.bool (g (PyData.eqv x y))))
  | _, _ => False
theorem dop_eqAny {o : CmpOp} {g : Bool → Bool} (xc : XC X C) (h1 : OpR X (compareOp o) (fun x y H Q => scal x y = true ∧ Q (.bl (g (decide (x = y)))) H))
    (h2 : ∀ (pins : List (Addr × Obj)) (s : Shared) (σ : L2.St) (H : Hp) (v u : Value) (Q : VK) (d e : D) (as bs : List Addr), Inv X pins σ H s → Reads s.heap v d as → Reads s.heap u e bs → SeqAt.shaped d = true → SeqAt.shaped e = true → Q (.bl (g (PyData.eqv d e))) H →
      wpAny (model X.prog X.w) X.A (compareOp o v u) (EP X pins σ Q) X.xe s) : DOp X C (compareOp o) (eqW g) := by
  intro pins s σ H x y v u Q I rx ry h
  obtain ⟨G, a, b, P, w, ia, ib, h, kt⟩ := h
  unfold eqW at h
  split at h
  · rename_i d e ea eb
    obtain ⟨ok, p⟩ := h
    have da := dat_is ea w ia
    have db := dat_is eb w ib
    have big : SeqAt.shaped d = true → SeqAt.shaped e = true → wpAny (model X.prog X.w) X.A (compareOp o v u) (EP X pins σ Q) X.xe s := fun s1 s2 => by
      rw [← xc.K] at da db
      obtain ⟨as, r1⟩ := Is.reads I d x v (SeqAt.canLay_of_shaped s1) da rx
      obtain ⟨bs, r2⟩ := Is.reads I e y u (SeqAt.canLay_of_shaped s2) db ry
      exact h2 pins s σ H v u Q d e as bs I r1 r2 s1 s2 (rD_ret w kt p (.bl _))
    have fin : scal x y = true → decide (x = y) = PyData.eqv d e → wpAny (model X.prog X.w) X.A (compareOp o v u) (EP X pins σ Q) X.xe s := fun sc e => by
      refine h1 pins s σ H x y v u Q I rx ry ⟨sc, ?_⟩
      rw [e]
      exact rD_ret w kt p (.bl _)
    unfold eqOk at ok
    split at ok
    case h_15 =>
      rw [Bool.and_eq_true] at ok
      exact big ok.1 ok.2
    all_goals (cases da; cases db; refine fin rfl ?_)
    all_goals first | rfl | exact decide_eq_true rfl | exact decide_eq_false (fun z => nomatch z) | exact dec_int | exact dec_bl | exact dec_str
  · exact h.elim
theorem dop_eq (xc : XC X C) : DOp X C (compareOp .Eq) (eqW id) := by
  obtain ⟨k, r⟩ := xc.room
  exact dop_eqAny xc op_eq fun pins s σ H v u Q d e as bs I r1 r2 s1 s2 q => SeqAt.compareEq_shaped r1 r2 s1 s2 r.units ⟨.bl _, H, I, rfl, q⟩
theorem dop_ne (xc : XC X C) : DOp X C (compareOp .NotEq) (eqW (!·)) := by
  obtain ⟨k, r⟩ := xc.room
  exact dop_eqAny xc op_ne fun pins s σ H v u Q d e as bs I r1 r2 s1 s2 q => SeqAt.compareNe_shaped r1 r2 s1 s2 r.units ⟨.bl _, H, I, rfl, q⟩
end
end DL
set_option Elab.async false
set_option linter.all false
set_option maxRecDepth 100000
set_option maxHeartbeats 1000000
namespace DL
open PySem PySem.Spec PyProof.Rows L2
section
variable {X : Cx} {C : Cn} {pos : Pos} {a b c e : Expr} {fa fb fe : W1} {fc : WB} {c1 c2 c3 : Nat}
/-! ## tests -/
theorem dt_val (h : DE X C c1 e fe) (he : ∀ whole, isTrue e X.env whole = (do let v ← whole; standAt e.pos; holding [v] (truthy v)) := by intro _; rfl) : DT X C c1 e (fun ρ P E => fe ρ (fun s => boolP s P) E) := by
  refine PT.imp (pt_val h he) ?_
  rintro σ H Q ⟨G, ρ, P, R, hf, k⟩
  refine ⟨G, ρ, _, R, hf, fun sv v G' H' p S V => ?_⟩
  obtain ⟨_, b, rfl, q⟩ := boolP_some p
  obtain ⟨V, _⟩ := V
  cases V
  exact ⟨b, rfl, k b G' H' q S⟩
theorem dt_not (h : DT X C c1 a fc) : DT X C c1 (.UnaryOp .Not a pos) (fun ρ P E => fc ρ (fun b => P (!b)) E) := by
  refine PT.imp (pt_not h) ?_
  rintro σ H Q ⟨G, ρ, P, R, hf, k⟩
  exact ⟨G, ρ, _, R, hf, fun b G' H' p S => k _ G' H' p S⟩
theorem dt_w (h : DW X C c1 e fc) : DT X C c1 e fc := PW.pt h
abbrev andB (f g : WB) : WB := fun ρ P E => f ρ (fun b => if b = true then g ρ P E else P false) E
abbrev orB (f g : WB) : WB := fun ρ P E => f ρ (fun b => if b = true then P true else g ρ P E) E
variable {rest : List Expr} {fd : WB}
theorem dw_and1 (h : DT X C c1 a fc) : DW X C c1 (.BoolOp .And [a] pos) fc := pw_and1 h
theorem dw_or1 (h : DT X C c1 a fc) : DW X C c1 (.BoolOp .Or [a] pos) fc := pw_or1 h
theorem dw_and (h : DT X C c1 a fc) (h' : DW X C c2 (.BoolOp .And (b :: rest) pos) fd) : DW X C (c1 + c2) (.BoolOp .And (a :: b :: rest) pos) (andB fc fd) := by
  refine PW.imp (pw_and h h') ?_
  rintro σ H Q ⟨G, ρ, P, R, hf, k⟩
  refine ⟨G, ρ, _, R.l, hf, fun b G' H' p S => ?_⟩
  cases b with
  | true => rw [if_pos rfl] at p ⊢; exact ⟨G', ρ, P, R.next S, p, fun b G2 H2 q S2 => k b G2 H2 q (S.trans S2)⟩
  | false => exact k _ G' H' p (S.le (Nat.le_add_right _ _))
theorem dw_or (h : DT X C c1 a fc) (h' : DW X C c2 (.BoolOp .Or (b :: rest) pos) fd) : DW X C (c1 + c2) (.BoolOp .Or (a :: b :: rest) pos) (orB fc fd) := by
  refine PW.imp (pw_or h h') ?_
  rintro σ H Q ⟨G, ρ, P, R, hf, k⟩
  refine ⟨G, ρ, _, R.l, hf, fun b G' H' p S => ?_⟩
  cases b with
  | true => exact k _ G' H' p (S.le (Nat.le_add_right _ _))
  | false => exact ⟨G', ρ, P, R.next S, p, fun b G2 H2 q S2 => k b G2 H2 q (S.trans S2)⟩
/-! and, or, not as values -/
theorem de_one {op} (h : DE X C c1 a fa) : DE X C c1 (.BoolOp op [a] pos) fa := pe_one h
abbrev andV (f g : W1) : W1 := fun ρ P E => f ρ (fun s => boolP s fun b => if b = true then g ρ P E else P (.d false (.bool false))) E
abbrev orV (f g : W1) : W1 := fun ρ P E => f ρ (fun s => boolP s fun b => if b = true then P (.d false (.bool true)) else g ρ P E) E
theorem de_and (h : DE X C c1 a fa) (h' : DE X C c2 (.BoolOp .And (b :: rest) pos) fb) : DE X C (c1 + c2) (.BoolOp .And (a :: b :: rest) pos) (andV fa fb) := by
  refine PE.imp (pe_and h h') ?_
  rintro σ H Q ⟨G, ρ, P, R, hf, k⟩
  refine ⟨G, ρ, _, R.l, hf, fun sv v G' H' p S V => ?_⟩
  obtain ⟨_, b, rfl, q⟩ := boolP_some p
  obtain ⟨V, _⟩ := V
  cases V
  refine ⟨b, rfl, ?_⟩
  cases b with
  | true => rw [if_pos rfl] at q ⊢; exact ⟨G', ρ, P, R.next S, q, fun sv v G2 H2 q S2 V2 => k sv v G2 H2 q (S.trans S2) (V2.lower S)⟩
  | false => exact k _ _ G' H' q (S.le (Nat.le_add_right _ _)) (.d (.bl false))
theorem de_or (h : DE X C c1 a fa) (h' : DE X C c2 (.BoolOp .Or (b :: rest) pos) fb) : DE X C (c1 + c2) (.BoolOp .Or (a :: b :: rest) pos) (orV fa fb) := by
  refine PE.imp (pe_or h h') ?_
  rintro σ H Q ⟨G, ρ, P, R, hf, k⟩
  refine ⟨G, ρ, _, R.l, hf, fun sv v G' H' p S V => ?_⟩
  obtain ⟨_, b, rfl, q⟩ := boolP_some p
  obtain ⟨V, _⟩ := V
  cases V
  refine ⟨b, rfl, ?_⟩
  cases b with
  | false => exact ⟨G', ρ, P, R.next S, q, fun sv v G2 H2 q S2 V2 => k sv v G2 H2 q (S.trans S2) (V2.lower S)⟩
  | true => exact k _ _ G' H' q (S.le (Nat.le_add_right _ _)) (.d (.bl true))
theorem de_not (h : DE X C c1 a fa) : DE X C c1 (.UnaryOp .Not a pos) (fun ρ P E => fa ρ (fun s => boolP s fun b => P (.d false (.bool (!b)))) E) := by
  refine PE.imp (pe_not h) ?_
  rintro σ H Q ⟨G, ρ, P, R, hf, k⟩
  refine ⟨G, ρ, _, R, hf, fun sv v G' H' p S V => ?_⟩
  obtain ⟨_, b, rfl, q⟩ := boolP_some p
  obtain ⟨V, _⟩ := V
  cases V
  exact ⟨b, rfl, k _ _ G' H' q S (.d (.bl _))⟩
theorem de_neg (h : DE X C c1 a fa) : DE X C c1 (.UnaryOp .USub a pos) (fun ρ P E => fa ρ (fun s => match s with | .d _ (.int i) => P (.d false (.int (-i))) | _ => False) E) := by
  refine PE.imp (pe_un un_neg h) ?_
  rintro σ H Q ⟨G, ρ, P, R, hf, k⟩
  refine ⟨G, ρ, _, R, hf, fun sv v G' H' p S V => ?_⟩
  split at p
  · obtain ⟨V, _⟩ := V
    cases V
    exact ⟨_, rfl, k _ _ G' H' p S (.d (.int _))⟩
  · exact p.elim
theorem de_if (hc : DT X C c1 c fc) (ha : DE X C c2 a fa) (hb : DE X C c3 b fb) : DE X C (c1 + (c2 + c3)) (.IfExp c a b pos) (fun ρ P E => fc ρ (fun t => if t = true then fa ρ P E else fb ρ P E) E) := by
  refine PE.imp (pe_ifExp hc ha hb) ?_
  rintro σ H Q ⟨G, ρ, P, R, hf, k⟩
  refine ⟨G, ρ, _, R.l, hf, fun t G' H' p S => ?_⟩
  cases t with
  | true => rw [if_pos rfl] at p ⊢; exact ⟨G', ρ, P, (R.next S).l, p, fun sv v G2 H2 q S2 V2 => k sv v G2 H2 q ((S.trans S2).le (by omega)) (V2.lower S)⟩
  | false => exact ⟨G', ρ, P, (R.next S).le (Nat.le_add_left _ _), p, fun sv v G2 H2 q S2 V2 => k sv v G2 H2 q ((S.trans S2).le (by omega)) (V2.lower S)⟩
/-! ## argument lists, displays -/
/-- what may be kept -/
def keepW (s : SV) (P : SV → Prop) : Prop := match s with
  | .fr k x => P (.d k x)
  | .own _ _ => False
  | s => P s
variable {es : List Expr} {f : WA}
theorem da_nil : DA X C 0 [] (fun _ P _ => P []) := by
  refine PA.imp pa_nil ?_
  rintro σ H Q ⟨G, ρ, P, R, hf, k⟩
  exact k [] [] G H hf rfl (StepN.refl R.ok) .nil
theorem keep_is {B : Bs} {n : Nat} {G H G' H' : Hp} {v : V} {s : SV} {P : SV → Prop} (S : StepN B n G H G' H') (V : IsR B H G' H' v s) (h : keepW s P) : ∃ G2 t, StepN B n G H G2 H' ∧ IsV B G2 H' v t ∧ (∀ k x, t ≠ .fr k x) ∧ (∀ k x, t ≠ .own k x) ∧ P t := by
  match s, V, h with
  | .fr k x, V, h =>
    obtain ⟨G2, S2, V2, _⟩ := V.frz S.toStep
    exact ⟨G2, _, ⟨S2, S.gr⟩, V2, fun _ _ => SV.noConfusion, fun _ _ => SV.noConfusion, h⟩
  | .d k x, V, h => exact ⟨G', _, S, V.1, fun _ _ => SV.noConfusion, fun _ _ => SV.noConfusion, h⟩
  | .st, V, h => exact ⟨G', _, S, V.1, fun _ _ => SV.noConfusion, fun _ _ => SV.noConfusion, h⟩
  | .exc n, V, h => exact ⟨G', _, S, V.1, fun _ _ => SV.noConfusion, fun _ _ => SV.noConfusion, h⟩
  | .scr n, V, h => exact ⟨G', _, S, V.1, fun _ _ => SV.noConfusion, fun _ _ => SV.noConfusion, h⟩
theorem da_cons (he : DE X C c1 e fe) (hr : DA X C c2 es f) (hs : starEach (e :: es) X.env = (false, eval e X.env) :: starEach es X.env := by rfl) :
    DA X C (c1 + c2) (e :: es) (fun ρ P E => fe ρ (fun s => keepW s fun t => f ρ (fun ss => P (t :: ss)) E) E) := by
  refine PA.imp (pa_cons he hr hs) ?_
  rintro σ H Q ⟨G, ρ, P, R, hf, k⟩
  refine ⟨G, ρ, _, R.l, hf, fun s v G' H' p S V => ?_⟩
  obtain ⟨G2, t, S2, V2, n1, n2, p2⟩ := keep_is S V p
  refine ⟨G2, ρ, _, R.next S2, p2, fun ss vs G3 H3 q hl S3 V3 => ?_⟩
  exact k _ _ G3 H3 q (by rw [List.length_cons, List.length_cons, hl]) (S2.trans S3) (.cons (V2.step S3) n1 n2 V3)
/-- all of them data -/
def allD : List SV → (Bool → List D → Prop) → Prop
  | [], P => P false []
  | .d k x :: r, P => allD r fun k' xs => P (k || k') (x :: xs)
  | _ :: _, _ => False
theorem allD_is {B : Bs} {G H : Hp} {vs : List V} {ss : List SV} (V : IsVs B G H vs ss) : ∀ {P : Bool → List D → Prop}, allD ss P → ∃ k ds, P k ds ∧ IsL B.K k G vs ds := by
  induction V with
  | nil => intro P h; exact ⟨_, _, h, .nil⟩
  | @cons v s vs ss h n n' _ ih =>
    intro P p
    cases s with
    | d k x =>
      obtain ⟨k', ds, q, i⟩ := ih p
      exact ⟨_, _, q, .cons (Is.k or_l h) (i.k or_r)⟩
    | _ => exact p.elim
theorem small_line {n : Nat} (h : n ≤ 1000) : n ≤ sizeLine := Nat.le_trans h (by decide)
theorem de_tup {x1} (h : DA X C c1 es f) (hl : es.length ≤ 1000 := by decide) : DE X C c1 (.Tuple es x1 pos) (fun ρ P E => f ρ (fun ss => allD ss fun k ds => P (.d k (.tuple ds))) E) := by
  refine PE.imp (pe_tup h) ?_
  rintro σ H Q ⟨G, ρ, P, R, hf, kt⟩
  refine ⟨G, ρ, _, R, hf, fun ss vs G' H' p hn S V => ?_⟩
  obtain ⟨k, ds, q, i⟩ := allD_is V p
  refine ⟨by rw [V.length, hn]; exact small_line hl, ?_⟩
  exact rD_tup S.ok (fun sv v G2 H2 p2 S2 V2 => kt sv v G2 H2 p2 (S.trans S2) (V2.lower S)) q (by rw [V.length, hn]; exact small_line hl) i
theorem de_lst (h : DA X C c1 es f) (hl : es.length ≤ 1000 := by decide) : DE X C c1 (.List es pos) (fun ρ P E => f ρ (fun ss => allD ss fun k ds => P (.fr k (.list ds))) E) := by
  refine PE.imp (pe_lst h) ?_
  rintro σ H Q ⟨G, ρ, P, R, hf, kt⟩
  refine ⟨G, ρ, _, R, hf, fun ss vs G' H' p hn S V => ?_⟩
  obtain ⟨k, ds, q, i⟩ := allD_is V p
  refine ⟨by rw [V.length, hn]; exact small_line hl, ?_⟩
  exact rD_fr S.ok (fun sv v G2 H2 p2 S2 V2 => kt sv v G2 H2 p2 (S.trans S2) (V2.lower S)) q (by rw [V.length, hn]; exact small_line hl) i
/-! ## is None -/
def isNone : SV → Bool
  | .d _ .none => true
  | _ => false
theorem isNone_is {B : Bs} {G H : Hp} {v : V} {s : SV} (V : IsV B G H v s) : decide (v = .non) = isNone s := by
  match s, V with
  | .d k x, V =>
    cases V <;> first | exact decide_eq_true rfl | exact decide_eq_false (fun e => nomatch e)
  | .st, ⟨a, g, _, e⟩ => subst e; exact decide_eq_false (fun e => nomatch e)
  | .own k x, ⟨p, e, _⟩ => subst e; exact decide_eq_false (fun e => nomatch e)
  | .fr k x, ⟨p, e, _⟩ => subst e; exact decide_eq_false (fun e => nomatch e)
  | .exc n, ⟨a, c, e, _⟩ => subst e; exact decide_eq_false (fun e => nomatch e)
  | .scr n, h => obtain ⟨a, e, _⟩ := (show ScrO _ _ _ _ from h).ex; subst e; exact decide_eq_false (fun e => nomatch e)
def isNW (g : Bool → Bool) : O2 := fun a b P => match b with
  | .d _ .none => P (.d false (.bool (g (isNone a))))
  | _ => False
theorem dop_is : DOp X C (compareOp .Is) (isNW id) := by
  intro pins s σ H x y v u Q I rx ry h
  obtain ⟨G, a, b, P, w, ia, ib, h, kt⟩ := h
  unfold isNW at h
  split at h
  · cases ib
    exact op_isN pins s σ H x _ v u Q I rx ry ⟨rfl, by rw [isNone_is ia]; exact rD_ret w kt h (.bl _)⟩
  · exact h.elim
theorem dop_isNot : DOp X C (compareOp .IsNot) (isNW (!·)) := by
  intro pins s σ H x y v u Q I rx ry h
  obtain ⟨G, a, b, P, w, ia, ib, h, kt⟩ := h
  unfold isNW at h
  split at h
  · cases ib
    exact op_notN pins s σ H x _ v u Q I rx ry ⟨rfl, by rw [isNone_is ia]; exact rD_ret w kt h (.bl _)⟩
  · exact h.elim
end
end DL
set_option Elab.async false
set_option linter.all false
set_option maxRecDepth 100000
set_option maxHeartbeats 1000000
namespace DL
open PySem PySem.Spec PyProof.Rows L2
/-! ## calls of built-ins -/
inductive IsVr (B : Bs) (G H : Hp) : List V → List SV → Prop
  | nil : IsVr B G H [] []
  | cons {v : V} {s : SV} {vs : List V} {ss : List SV} : IsV B G H v s → IsVr B G H vs ss → IsVr B G H (v :: vs) (s :: ss)
theorem IsVr.one {B : Bs} {G H : Hp} {vs : List V} {s : SV} (h : IsVr B G H vs [s]) : ∃ v, vs = [v] ∧ IsV B G H v s := by
  cases h with | cons a b => cases b; exact ⟨_, rfl, a⟩
theorem IsVr.two {B : Bs} {G H : Hp} {vs : List V} {s t : SV} (h : IsVr B G H vs [s, t]) : ∃ v w, vs = [v, w] ∧ IsV B G H v s ∧ IsV B G H w t := by
  cases h with | cons a b => cases b with | cons c d => cases d; exact ⟨_, _, rfl, a, c⟩
abbrev O1 := List SV → (SV → Prop) → Prop
def rC (C : Cn) (h : O1) : List V → Hp → VK → Prop := fun vs H Q => ∃ G ss P, WOk C.toBs G H ∧ IsVr C.toBs G H vs ss ∧ h ss P ∧ Kont C H G P Q
def DCall (X : Cx) (C : Cn) (f : Value) (h : O1) : Prop := CallR X f (rC C h)
section
variable {X : Cx} {C : Cn} {pos p : Pos} {x : Str} {id T : String} {a b c e : Expr} {fa fb fe : W1} {h : O1} {c1 c2 : Nat}
theorem td_b1 : ∀ σ H Q, TD C c1 (fun ρ P E => fa ρ (fun s => h [s] P) E) σ H Q → tCB (rC C h) (tCons (TD C c1 fa) tNil) σ H Q := by
  rintro σ H Q ⟨G, ρ, P, R, hf, k⟩
  exact ⟨G, ρ, _, R, hf, fun s v G' H' q S V => ⟨G', _, P, S.ok, .cons V.1 .nil, q, fun sv v G2 H2 p2 S2 V2 => k sv v G2 H2 p2 (S.trans S2) (V2.lower S)⟩⟩
theorem td_b2 : ∀ σ H Q, TD C (c1 + c2) (fun ρ P E => fa ρ (fun s => fb ρ (fun t => h [s, t] P) E) E) σ H Q → tCB (rC C h) (tCons (TD C c1 fa) (tCons (TD C c2 fb) tNil)) σ H Q := by
  rintro σ H Q ⟨G, ρ, P, R, hf, k⟩
  refine ⟨G, ρ, _, R.l, hf, fun s v G' H' q S V => ⟨G', ρ, _, R.next S, q, fun t w G2 H2 q2 S2 V2 => ?_⟩⟩
  exact ⟨G2, _, P, S2.ok, .cons (V.1.step S2) (.cons V2.1 .nil), q2, fun sv v G3 H3 p3 S3 V3 => k sv v G3 H3 p3 (S.trans (S2.trans S3)) (V3.lower (S.trans S2))⟩
theorem de_b1 (d : DCall X C (.builtin id) h) (hm : X.mg x = none) (hv : bootBuiltins x = some (.builtin id)) (ha : DE X C c1 a fa) (xc : XC X C) (hg : Gl X x := by rfl) (hn : x ≠ "__name__" := by decide) (hdb : (x == ("__debug__" : Str)) = false := by decide)
    (h1 : starEach [a] X.env = (false, eval a X.env) :: starEach [] X.env := by rfl) (hpl : (backTo pos (starEach [] X.env)).any (·.1) = false := by rfl) : DE X C c1 (.Call (.Name x p) [a] [] pos) (fun ρ P E => fa ρ (fun s => h [s] P) E) :=
  PE.imp (pe_callB d hg hm hv (pa_cons ha pa_nil h1) hn hdb h1 hpl) td_b1
theorem de_t1 (d : DCall X C (.type T) h) (hm : X.mg x = none) (hv : bootBuiltins x = some (.type T)) (ha : DE X C c1 a fa) (xc : XC X C) (hg : Gl X x := by rfl) (hn : x ≠ "__name__" := by decide) (hdb : (x == ("__debug__" : Str)) = false := by decide)
    (h1 : starEach [a] X.env = (false, eval a X.env) :: starEach [] X.env := by rfl) (hpl : (backTo pos (starEach [] X.env)).any (·.1) = false := by rfl) : DE X C c1 (.Call (.Name x p) [a] [] pos) (fun ρ P E => fa ρ (fun s => h [s] P) E) :=
  PE.imp (pe_callTy d hg hm hv (pa_cons ha pa_nil h1) hn hdb h1 hpl) td_b1
theorem de_b2 (d : DCall X C (.builtin id) h) (hm : X.mg x = none) (hv : bootBuiltins x = some (.builtin id)) (ha : DE X C c1 a fa) (hb : DE X C c2 b fb) (xc : XC X C) (hg : Gl X x := by rfl) (hn : x ≠ "__name__" := by decide) (hdb : (x == ("__debug__" : Str)) = false := by decide)
    (h1 : starEach [a, b] X.env = (false, eval a X.env) :: starEach [b] X.env := by rfl) (h2 : starEach [b] X.env = (false, eval b X.env) :: starEach [] X.env := by rfl) (hpl : (backTo pos (starEach [b] X.env)).any (·.1) = false := by rfl) :
    DE X C (c1 + c2) (.Call (.Name x p) [a, b] [] pos) (fun ρ P E => fa ρ (fun s => fb ρ (fun t => h [s, t] P) E) E) :=
  PE.imp (pe_callB d hg hm hv (pa_cons ha (pa_cons hb pa_nil h2) h1) hn hdb h1 hpl) td_b2
/-! len -/
def lenW : O1 := fun ss P => match ss with
  | [.d _ (.str x)] => x.length ≤ sizeLine ∧ P (.d false (.int x.length))
  | [s] => match lv s, tv s, dv s with
    | some xs, _, _ => P (.d false (.int xs.length))
    | _, some xs, _ => P (.d false (.int xs.length))
    | _, _, some xs => P (.d false (.int xs.length))
    | _, _, _ => False
  | _ => False
theorem IsD.length {K : PySem.W.Frag} {k : Bool} {H : Hp} : ∀ {l : List (Key × V)} {d : List (D × D)}, IsD K k H l d → l.length = d.length
  | _, _, .nil => rfl
  | _, _, .cons _ r => by rw [List.length_cons, List.length_cons, IsD.length r]
theorem IsDT.length {K : PySem.W.Frag} {k : Bool} {H : Hp} : ∀ {l : List (List Key × V)} {d : List (D × D)}, IsDT K k H l d → l.length = d.length
  | _, _, .nil => rfl
  | _, _, .cons _ r => by rw [List.length_cons, List.length_cons, IsDT.length r]
theorem dcall_len (xc : XC X C) : DCall X C (.builtin "len") lenW := by
  intro pins s σ H vs us Q I rv h
  obtain ⟨G, ss, P, w, iv, h, kt⟩ := h
  unfold lenW at h
  split at h
  · obtain ⟨v, ev, jv⟩ := iv.one
    subst ev
    cases jv
    exact call_len_str pins s σ H _ us Q I rv ⟨_, rfl, h.1, rD_ret w kt h.2 (.int _)⟩
  · obtain ⟨v, ev, jv⟩ := iv.one
    subst ev
    have o := call_len_seq (X := X)
    split at h
    · rename_i e1
      obtain ⟨p1, vs, rfl, h1, i1, z1⟩ := lv_is e1 w jv
      exact o pins s σ H _ us Q I rv ⟨p1, vs, rfl, .inl (SqL.of h1), by rw [i1.length]; exact rD_ret w kt h (.int _)⟩
    · rename_i e1 _
      obtain ⟨p1, vs, rfl, h1, i1, _, z1⟩ := tv_is e1 w jv
      exact o pins s σ H _ us Q I rv ⟨p1, vs, rfl, .inr (by rw [xc.K]; exact h1), by rw [i1.length]; exact rD_ret w kt h (.int _)⟩
    · rename_i e1 _ _
      obtain ⟨p1, rfl, ⟨kvs, h1, i1⟩ | ⟨kvs, h1, i1⟩⟩ := dv_is e1 w jv
      · obtain ⟨u, rfl, ru⟩ := vals1 rv
        cases ru
        exact d_len I h1 fun t s' I' => ⟨.int _, H, I', ⟨t, rfl⟩, by rw [i1.length]; exact rD_ret w kt h (.int _)⟩
      · exact call_len_dT pins s σ H _ us Q I rv ⟨p1, kvs, rfl, h1, by rw [i1.length]; exact rD_ret w kt h (.int _)⟩
    · exact h.elim
  · exact h.elim
/-! one list of ints, bools -/
def ints? : List D → Option (List Int)
  | [] => some []
  | .int i :: r => (ints? r).map (i :: ·)
  | _ :: _ => none
theorem ints_of : ∀ {ds : List D} {ns : List Int}, ints? ds = some ns → ds = ns.map PyData.int
  | [], _, h => by cases h; rfl
  | .int i :: r, ns, h => by
    have h : (ints? r).map (i :: ·) = some ns := h
    cases e : ints? r with
    | none => rw [e] at h; cases h
    | some m => rw [e] at h; cases h; rw [ints_of e]; rfl
theorem IsL.ints_eq {K : PySem.W.Frag} {k : Bool} {H : Hp} : ∀ {ns : List Int} {vs : List V}, IsL K k H vs (ns.map PyData.int) → vs = ns.map V.int
  | [], _, .nil => rfl
  | n :: r, _, .cons a b => by cases a; rw [IsL.ints_eq b]; rfl
def bools? : List D → Option (List Bool)
  | [] => some []
  | .bool i :: r => (bools? r).map (i :: ·)
  | _ :: _ => none
theorem bools_of : ∀ {ds : List D} {ns : List Bool}, bools? ds = some ns → ds = ns.map PyData.bool
  | [], _, h => by cases h; rfl
  | .bool i :: r, ns, h => by
    have h : (bools? r).map (i :: ·) = some ns := h
    cases e : bools? r with
    | none => rw [e] at h; cases h
    | some m => rw [e] at h; cases h; rw [bools_of e]; rfl
theorem IsL.bools_eq {K : PySem.W.Frag} {k : Bool} {H : Hp} : ∀ {ns : List Bool} {vs : List V}, IsL K k H vs (ns.map PyData.bool) → vs = ns.map V.bl
  | [], _, .nil => rfl
  | n :: r, _, .cons a b => by cases a; rw [IsL.bools_eq b]; rfl
/-- the ints of a list -/
def intsW (ss : List SV) (P : List Int → Prop) : Prop := match ss with
  | [s] => ∃ ns, lv s = some (ns.map PyData.int) ∧ P ns
  | _ => False
theorem intsW_is {G H : Hp} {vs : List V} {ss : List SV} {P : List Int → Prop} (w : WOk C.toBs G H) (iv : IsVr C.toBs G H vs ss) (h : intsW ss P) : ∃ a ns, vs = [.ref a] ∧ H a = some (.lst (ns.map V.int)) ∧ P ns ∧ ns.length ≤ sizeLine := by
  unfold intsW at h
  split at h
  · obtain ⟨v, ev, jv⟩ := iv.one
    subst ev
    obtain ⟨ns, e, q⟩ := h
    obtain ⟨p1, vs, rfl, h1, i1, z1⟩ := lv_is e w jv
    rw [i1.ints_eq] at h1
    exact ⟨p1, ns, rfl, h1, q, by rw [i1.length, List.length_map] at z1; exact z1⟩
  · exact h.elim
def boolsW (ss : List SV) (P : List Bool → Prop) : Prop := match ss with
  | [s] => ∃ ns, lv s = some (ns.map PyData.bool) ∧ P ns
  | _ => False
theorem boolsW_is {G H : Hp} {vs : List V} {ss : List SV} {P : List Bool → Prop} (w : WOk C.toBs G H) (iv : IsVr C.toBs G H vs ss) (h : boolsW ss P) : ∃ a ns, vs = [.ref a] ∧ H a = some (.lst (ns.map V.bl)) ∧ P ns := by
  unfold boolsW at h
  split at h
  · obtain ⟨v, ev, jv⟩ := iv.one
    subst ev
    obtain ⟨ns, e, q⟩ := h
    obtain ⟨p1, vs, rfl, h1, i1, z1⟩ := lv_is e w jv
    rw [i1.bools_eq] at h1
    exact ⟨p1, ns, rfl, h1, q⟩
  · exact h.elim
def sumW : O1 := fun ss P => intsW ss fun ns => P (.d false (.int ns.sum))
theorem dcall_sum (xc : XC X C) : DCall X C (.builtin "sum") sumW := by
  intro pins s σ H vs us Q I rv h
  obtain ⟨G, ss, P, w, iv, h, kt⟩ := h
  obtain ⟨a, ns, rfl, e, q, zn⟩ := intsW_is w iv h
  exact cr_sum xc.calm pins s σ H _ us Q I rv ⟨a, ns, rfl, SqL.of e, rD_ret w kt q (.int _)⟩
def allW : O1 := fun ss P => boolsW ss fun ns => P (.d false (.bool (ns.all fun b => b)))
theorem dcall_all (xc : XC X C) : DCall X C (.builtin "all") allW := by
  intro pins s σ H vs us Q I rv h
  obtain ⟨G, ss, P, w, iv, h, kt⟩ := h
  obtain ⟨a, ns, rfl, e, q⟩ := boolsW_is w iv h
  exact cr_all xc.calm pins s σ H _ us Q I rv ⟨a, ns, rfl, SqL.of e, rD_ret w kt q (.bl _)⟩
def anyW : O1 := fun ss P => boolsW ss fun ns => P (.d false (.bool (ns.any fun b => b)))
theorem dcall_any (xc : XC X C) : DCall X C (.builtin "any") anyW := by
  intro pins s σ H vs us Q I rv h
  obtain ⟨G, ss, P, w, iv, h, kt⟩ := h
  obtain ⟨a, ns, rfl, e, q⟩ := boolsW_is w iv h
  exact cr_any xc.calm pins s σ H _ us Q I rv ⟨a, ns, rfl, SqL.of e, rD_ret w kt q (.bl _)⟩
def maxW : O1 := fun ss P => match ss with
  | [.d _ (.int i), .d _ (.int j)] => P (.d false (.int (if j > i then j else i)))
  | ss => intsW ss fun ns => 0 < ns.length ∧ ∀ m, m ∈ ns → (∀ y, y ∈ ns → y ≤ m) → P (.d false (.int m))
theorem dcall_max (xc : XC X C) : DCall X C (.builtin "max") maxW := by
  intro pins s σ H vs us Q I rv h
  obtain ⟨G, ss, P, w, iv, h, kt⟩ := h
  unfold maxW at h
  split at h
  · obtain ⟨v, v', ev, V1, V2⟩ := iv.two
    subst ev
    cases V1; cases V2
    exact call_max2 xc.calm pins s σ H _ us Q I rv ⟨_, _, rfl, rD_ret w kt h (.int _)⟩
  · obtain ⟨a, ns, rfl, e, q, zn⟩ := intsW_is w iv h
    exact cr_max xc.calm pins s σ H _ us Q I rv ⟨a, ns, rfl, SqL.of e, q.1, fun m h1 h2 => rD_ret w kt (q.2 m h1 h2) (.int _)⟩
def minW : O1 := fun ss P => match ss with
  | [.d _ (.int i), .d _ (.int j)] => P (.d false (.int (if j < i then j else i)))
  | ss => intsW ss fun ns => 0 < ns.length ∧ ∀ m, m ∈ ns → (∀ y, y ∈ ns → m ≤ y) → P (.d false (.int m))
theorem dcall_min (xc : XC X C) : DCall X C (.builtin "min") minW := by
  intro pins s σ H vs us Q I rv h
  obtain ⟨G, ss, P, w, iv, h, kt⟩ := h
  unfold minW at h
  split at h
  · obtain ⟨v, v', ev, V1, V2⟩ := iv.two
    subst ev
    cases V1; cases V2
    exact call_min2 xc.calm pins s σ H _ us Q I rv ⟨_, _, rfl, rD_ret w kt h (.int _)⟩
  · obtain ⟨a, ns, rfl, e, q, zn⟩ := intsW_is w iv h
    exact cr_min xc.calm pins s σ H _ us Q I rv ⟨a, ns, rfl, SqL.of e, q.1, fun m h1 h2 => rD_ret w kt (q.2 m h1 h2) (.int _)⟩
def absW : O1 := fun ss P => match ss with
  | [.d _ (.int i)] => P (.d false (.int (if i < 0 then -i else i)))
  | _ => False
theorem dcall_abs : DCall X C (.builtin "abs") absW := by
  intro pins s σ H vs us Q I rv h
  obtain ⟨G, ss, P, w, iv, h, kt⟩ := h
  unfold absW at h
  split at h
  · obtain ⟨v, ev, jv⟩ := iv.one
    subst ev
    cases jv
    exact call_abs pins s σ H _ us Q I rv ⟨_, rfl, rD_ret w kt h (.int _)⟩
  · exact h.elim
def intW : O1 := fun ss P => match ss with
  | [.d _ (.int i)] => P (.d false (.int i))
  | [.d _ (.bool b)] => P (.d false (.int (if b then 1 else 0)))
  | _ => False
theorem dcall_int : DCall X C (.type "int") intW := by
  intro pins s σ H vs us Q I rv h
  obtain ⟨G, ss, P, w, iv, h, kt⟩ := h
  unfold intW at h
  split at h
  · obtain ⟨v, ev, jv⟩ := iv.one
    subst ev
    cases jv
    exact call_int1 pins s σ H _ us Q I rv (.inl ⟨_, rfl, rD_ret w kt h (.int _)⟩)
  · obtain ⟨v, ev, jv⟩ := iv.one
    subst ev
    cases jv
    exact call_int1 pins s σ H _ us Q I rv (.inr ⟨_, rfl, rD_ret w kt h (.int _)⟩)
  · exact h.elim
def sortedW : O1 := fun ss P => intsW ss fun ns => ∀ ns' : List Int, ns'.Perm ns → ns'.Pairwise (· ≤ ·) → P (.fr false (.list (ns'.map PyData.int)))
theorem dcall_sorted (xc : XC X C) : DCall X C (.builtin "sorted") sortedW := by
  intro pins s σ H vs us Q I rv h
  obtain ⟨G, ss, P, w, iv, h, kt⟩ := h
  obtain ⟨a, ns, rfl, e, q, zn⟩ := intsW_is w iv h
  exact cr_sortedI pins s σ H _ us Q I rv ⟨a, ns, rfl, SqL.of e, fun ns' p h1 h2 n => rD_fr w kt (q ns' h1 h2) (by rw [List.length_map, h1.length_eq]; exact zn) (.ints _) p n⟩
def listW : O1 := fun ss P => match ss with
  | [s] => match lv s, tv s with
    | some xs, _ => P (.fr (flg s) (.list xs))
    | _, some xs => P (.fr (flg s) (.list xs))
    | _, _ => False
  | _ => False
theorem dcall_list (xc : XC X C) : DCall X C (.type "list") listW := by
  intro pins s σ H vs us Q I rv h
  obtain ⟨G, ss, P, w, iv, h, kt⟩ := h
  unfold listW at h
  split at h
  · obtain ⟨v, ev, jv⟩ := iv.one
    subst ev
    have o := call_list_of (X := X)
    split at h
    · rename_i e1
      obtain ⟨p1, vs, rfl, h1, i1, z1⟩ := lv_is e1 w jv
      exact o pins s σ H _ us Q I rv ⟨p1, vs, rfl, .inl (SqL.of h1), rD_fr w kt h z1 i1⟩
    · rename_i e1 _
      obtain ⟨p1, vs, rfl, h1, i1, _, z1⟩ := tv_is e1 w jv
      exact o pins s σ H _ us Q I rv ⟨p1, vs, rfl, .inr (by rw [xc.K]; exact h1), rD_fr w kt h z1 i1⟩
    · exact h.elim
  · exact h.elim
def tvd (s : SV) : Option (List D) := match s with
  | .d _ (.tuple xs) => some xs
  | _ => none
def tupleW : O1 := fun ss P => match ss with
  | [s] => match lv s, tvd s with
    | some xs, _ => P (.d (flg s) (.tuple xs))
    | _, some xs => P (.d (flg s) (.tuple xs))
    | _, _ => False
  | _ => False
theorem tv_dat {s : SV} {xs : List D} (h : tv s = some xs) : dat s = some (.tuple xs) := by
  match s, h with
  | .d k (.tuple ys), h => cases h; rfl
  | .own k (.tuple ys), h => cases h; rfl
  | .fr k (.tuple ys), h => cases h; rfl
theorem tv_d {s : SV} {xs : List D} (h : tvd s = some xs) : s = .d (flg s) (.tuple xs) ∧ tv s = some xs := by
  match s, h with
  | .d k (.tuple ys), h => cases h; exact ⟨rfl, rfl⟩
theorem dcall_tuple (xc : XC X C) : DCall X C (.type "tuple") tupleW := by
  intro pins s σ H vs us Q I rv h
  obtain ⟨G, ss, P, w, iv, h, kt⟩ := h
  unfold tupleW at h
  split at h
  · obtain ⟨v, ev, jv⟩ := iv.one
    subst ev
    have o := call_tuple_of (X := X)
    split at h
    · rename_i e1
      obtain ⟨p1, vs, rfl, h1, i1, z1⟩ := lv_is e1 w jv
      exact o pins s σ H _ us Q I rv ⟨p1, vs, rfl, .inl ⟨SqL.of h1, rD_tup w kt h z1 i1⟩⟩
    · rename_i e1 _
      obtain ⟨p1, vs, rfl, h1, i1, _, z1⟩ := tv_is (tv_d e1).2 w jv
      have V' := jv
      rw [(tv_d e1).1] at V'
      exact o pins s σ H _ us Q I rv ⟨p1, vs, rfl, .inr ⟨by rw [xc.K]; exact h1, rD_ret w kt h V'⟩⟩
    · exact h.elim
  · exact h.elim
/-! isinstance -/
inductive Ty where
  | int | bool | str | list | tuple | dict
def Ty.s : Ty → String
  | .int => "int"
  | .bool => "bool"
  | .str => "str"
  | .list => "list"
  | .tuple => "tuple"
  | .dict => "dict"
def tyN : D → String
  | .none => "NoneType"
  | .bool _ => "bool"
  | .int _ => "int"
  | .str _ => "str"
  | .list _ => "list"
  | .tuple _ => "tuple"
  | .dict _ => "dict"
/-- isinstance -/
def isD : D → Ty → Bool
  | .bool _, .bool => true
  | .bool _, .int => true
  | .int _, .int => true
  | .str _, .str => true
  | .list _, .list => true
  | .tuple _, .tuple => true
  | .dict _, .dict => true
  | _, _ => false
def isS (t : String) (T : Ty) : Bool := t == T.s || (t == "bool" && T.s == "int")
theorem kitB_tab : (["NoneType", "bool", "int", "str", "list", "tuple", "dict"].all fun t => [Ty.int, .bool, .str, .list, .tuple, .dict].all fun T => kitB t T.s == some (isS t T)) = true := by decide +kernel
theorem kitB_of {d : D} {T : Ty} : kitB (tyN d) T.s = some (isD d T) := by
  have h1 : tyN d ∈ ["NoneType", "bool", "int", "str", "list", "tuple", "dict"] := by cases d <;> simp [tyN]
  have h2 : T ∈ [Ty.int, .bool, .str, .list, .tuple, .dict] := by cases T <;> simp
  have q := beq_iff_eq.mp (List.all_eq_true.mp (List.all_eq_true.mp kitB_tab _ h1) _ h2)
  rw [q]
  cases d <;> cases T <;> simp [tyN, isS, Ty.s, isD]
theorem tyX_of {K : PySem.W.Frag} {k : Bool} {H : Hp} {v : V} {d : D} (h : Is K k H v d) : TyX K H v (.type (tyN d)) := by
  cases h with
  | non => exact .base .non
  | bl b => exact .base (.bl b)
  | int i => exact .base (.int i)
  | str x => exact .base (.str x)
  | lst e _ _ => exact .base (.lst e)
  | tup e _ _ => exact .base (.tup e)
  | tupK _ e _ _ =>
    rcases e with (z | ⟨o, z⟩) | ⟨o, its, n, h1, h2, _⟩
    · exact .base (.tup z)
    · exact .fTuple z
    · exact .kTuple h1 h2
  | dct e _ =>
    rcases e with e | ⟨o, e⟩
    · exact .base (.dK e)
    · exact .fDict e
  | dctT e _ => exact .base (.dT e)
def isiW (T : Ty) (s : SV) (P : SV → Prop) : Prop := match dat s with
  | some d => P (.d false (.bool (isD d T)))
  | none => False
theorem de_isi {x : Str} {p1 p2 : Pos} (T : Ty) (hm : X.mg "isinstance" = none) (hmT : X.mg x = none) (hvT : bootBuiltins x = some (.type T.s)) (ha : DE X C c1 a fa) (xc : XC X C)
    (hg : Gl X "isinstance" := by rfl) (hgT : Gl X x := by rfl) (hn : x ≠ "__name__" := by decide) (hdb : (x == ("__debug__" : Str)) = false := by decide)
    (h1 : starEach [a, .Name x p2] X.env = (false, eval a X.env) :: starEach [.Name x p2] X.env := by rfl) (h2 : starEach [.Name x p2] X.env = (false, eval (.Name x p2) X.env) :: starEach [] X.env := by rfl) (hpl : (backTo pos (starEach [.Name x p2] X.env)).any (·.1) = false := by rfl) :
    DE X C c1 (.Call (.Name "isinstance" p1) [a, .Name x p2] [] pos) (fun ρ P E => fa ρ (fun s => isiW T s P) E) := by
  refine PE.imp (pe_callB call_isi hg hm boot_isinstance (pa_cons ha (pa_cons (pe_bltn (v := .ty T.s) hgT hmT hvT rfl hn hdb) pa_nil h2) h1) (by decide) (by decide) h1 hpl) ?_
  rintro σ H Q ⟨G, ρ, P, R, hf, kt⟩
  refine ⟨G, ρ, _, R, hf, fun s v G' H' q S V => ?_⟩
  unfold isiW at q
  split at q
  · rename_i d e
    refine ⟨v, .ty T.s, _, _, isD d T, rfl, .ty T.s, by rw [xc.K]; exact tyX_of (dat_is e S.ok V.1), kit_ty kitB_of, ?_⟩
    exact kt _ _ G' H' q S (.d (.bl _))
  · exact q.elim
/-- isinstance(a, (T1, T2)) -/
theorem de_isi2 {x y : Str} {p1 p2 p3 p4 : Pos} {x1} (T U : Ty) (hm : X.mg "isinstance" = none) (hmT : X.mg x = none) (hvT : bootBuiltins x = some (.type T.s)) (hmU : X.mg y = none) (hvU : bootBuiltins y = some (.type U.s)) (ha : DE X C c1 a fa) (xc : XC X C)
    (hg : Gl X "isinstance" := by rfl) (hgT : Gl X x := by rfl) (hgU : Gl X y := by rfl) (hn : x ≠ "__name__" := by decide) (hdb : (x == ("__debug__" : Str)) = false := by decide) (hn' : y ≠ "__name__" := by decide) (hdb' : (y == ("__debug__" : Str)) = false := by decide)
    (h0 : starEach [.Name x p2, .Name y p3] X.env = (false, eval (.Name x p2) X.env) :: starEach [.Name y p3] X.env := by rfl) (h00 : starEach [.Name y p3] X.env = (false, eval (.Name y p3) X.env) :: starEach [] X.env := by rfl)
    (h1 : starEach [a, .Tuple [.Name x p2, .Name y p3] x1 p4] X.env = (false, eval a X.env) :: starEach [.Tuple [.Name x p2, .Name y p3] x1 p4] X.env := by rfl) (h2 : starEach [.Tuple [.Name x p2, .Name y p3] x1 p4] X.env = (false, eval (.Tuple [.Name x p2, .Name y p3] x1 p4) X.env) :: starEach [] X.env := by rfl)
    (hpl : (backTo pos (starEach [.Tuple [.Name x p2, .Name y p3] x1 p4] X.env)).any (·.1) = false := by rfl) :
    DE X C c1 (.Call (.Name "isinstance" p1) [a, .Tuple [.Name x p2, .Name y p3] x1 p4] [] pos) (fun ρ P E => fa ρ (fun s => isiW T s fun r => boolP r fun b => isiW U s fun r' => boolP r' fun b' => P (.d false (.bool (b || b')))) E) := by
  refine PE.imp (pe_callB call_isiT hg hm boot_isinstance (pa_cons ha (pa_cons (pe_tup (pa_cons (pe_bltn (v := .ty T.s) hgT hmT hvT rfl hn hdb) (pa_cons (pe_bltn (v := .ty U.s) hgU hmU hvU rfl hn' hdb') pa_nil h00) h0)) pa_nil h2) h1) (by decide) (by decide) h1 hpl) ?_
  rintro σ H Q ⟨G, ρ, P, R, hf, kt⟩
  refine ⟨G, ρ, _, R, hf, fun s v G' H' q S V => ?_⟩
  unfold isiW at q
  split at q
  · rename_i d e
    refine ⟨(by decide : 2 ≤ sizeLine), fun tp n => ?_⟩
    have sa := StepN.allocG (o := HO.tup [.ty T.s, .ty U.s]) S.ok n rfl
    refine ⟨v, tp, [.ty T.s, .ty U.s], _, [.type T.s, .type U.s], isD d T || isD d U, rfl, upd_same, .cons (.ty T.s) (.cons (.ty U.s) .nil), by rw [xc.K]; exact tyX_of (dat_is e sa.ok (V.1.step sa)), ?_, ?_⟩
    · refine kitAny_cons (kit_ty kitB_of) (fun z => ?_) fun z => by rw [z]; rfl
      rw [z, Bool.false_or]
      refine kitAny_cons (kit_ty kitB_of) (fun z => ?_) fun z => z
      rw [z]; rfl
    · exact kt _ _ _ _ q (S.trans sa) (.d (.bl _))
  · exact q.elim
end
end DL
set_option Elab.async false
set_option linter.all false
set_option maxRecDepth 100000
set_option maxHeartbeats 1000000
namespace DL
open PySem PySem.Spec PyProof.Rows L2
/-! ## keys -/
def key? : D → Option Key
  | .int i => some (.inl i)
  | .str x => some (.inr x)
  | _ => none
theorem key_of? {d : D} {k : Key} (h : key? d = some k) : d = kD k := by
  cases d with
  | int i => cases h; rfl
  | str x => cases h; rfl
  | _ => cases h
def keys? : List D → Option (List Key)
  | [] => some []
  | d :: r => match key? d, keys? r with
    | some k, some ks => some (k :: ks)
    | _, _ => none
theorem keys_of? : ∀ {ds : List D} {ks : List Key}, keys? ds = some ks → ds = ks.map kD
  | [], _, h => by cases h; rfl
  | d :: r, ks, h => by
    unfold keys? at h
    split at h
    · rename_i k ks' e1 e2
      cases h
      rw [key_of? e1, keys_of? e2]; rfl
    · cases h
theorem Is.key {K : PySem.W.Frag} {k : Bool} {H : Hp} {v : V} {y : Key} (h : Is K k H v (kD y)) : v = kV y := by
  cases y with
  | inl i => cases h; rfl
  | inr x => cases h; rfl
theorem IsL.keys {K : PySem.W.Frag} {k : Bool} {H : Hp} : ∀ {ks : List Key} {vs : List V}, IsL K k H vs (ks.map kD) → vs = ks.map kV
  | [], _, .nil => rfl
  | y :: r, _, .cons a b => by rw [a.key, IsL.keys b]; rfl
theorem eqv_key (a b : Key) : PyData.eqv (kD a) (kD b) = decide (a = b) := by
  cases a with
  | inl i => cases b with
    | inl j => exact (key_ll i j).symm
    | inr y => exact (decide_eq_false (fun e => nomatch e)).symm
  | inr x => cases b with
    | inl j => exact (decide_eq_false (fun e => nomatch e)).symm
    | inr y =>
      rw [key_rr]
      show (x == y) = decide (x = y)
      by_cases e : x = y
      · subst e; simp
      · rw [decide_eq_false e]; exact beq_eq_false_iff_ne.mpr e
theorem eqv_keys : ∀ a b : List Key, PyData.eqvAll (a.map kD) (b.map kD) = decide (a = b)
  | [], [] => rfl
  | [], _ :: _ => rfl
  | _ :: _, [] => rfl
  | x :: r, y :: t => by
    show (PyData.eqv (kD x) (kD y) && PyData.eqvAll (r.map kD) (t.map kD)) = _
    rw [eqv_key, eqv_keys r t]
    by_cases e : x = y
    · subst e
      by_cases e2 : r = t
      · subst e2; simp
      · simp [e2]
    · simp [e]
/-- the value at a key -/
def lookD (kds : List (D × D)) (x : D) : Option D := (kds.find? fun p => PyData.eqv p.1 x).map (·.2)
theorem IsD.look {K : PySem.W.Frag} {k : Bool} {H : Hp} (y : Key) : ∀ {kvs : List (Key × V)} {kds : List (D × D)}, IsD K k H kvs kds → (lookD kds (kD y) = none ∧ valV kvs y = none) ∨ ∃ d v, lookD kds (kD y) = some d ∧ valV kvs y = some v ∧ Is K k H v d
  | _, _, .nil => .inl ⟨rfl, rfl⟩
  | _, _, @IsD.cons _ _ _ z v r d rd a b => by
    by_cases e : z = y
    · subst e
      refine .inr ⟨d, v, ?_, valV_pos rfl, a⟩
      simp [lookD, List.find?_cons, eqv_key]
    · have e1 : lookD ((kD z, d) :: rd) (kD y) = lookD rd (kD y) := by simp [lookD, List.find?_cons, eqv_key, e]
      have e2 : valV ((z, v) :: r) y = valV r y := valV_neg e
      rw [e1, e2]
      exact IsD.look y b
theorem IsDT.look {K : PySem.W.Frag} {k : Bool} {H : Hp} (y : List Key) : ∀ {kvs : List (List Key × V)} {kds : List (D × D)}, IsDT K k H kvs kds → (lookD kds (.tuple (y.map kD)) = none ∧ valV kvs y = none) ∨ ∃ d v, lookD kds (.tuple (y.map kD)) = some d ∧ valV kvs y = some v ∧ Is K k H v d
  | _, _, .nil => .inl ⟨rfl, rfl⟩
  | _, _, @IsDT.cons _ _ _ z v r d rd a b => by
    have q : PyData.eqv (.tuple (z.map kD)) (.tuple (y.map kD)) = decide (z = y) := eqv_keys z y
    by_cases e : z = y
    · subst e
      refine .inr ⟨d, v, ?_, valV_pos rfl, a⟩
      simp [lookD, List.find?_cons, q]
    · have e1 : lookD ((.tuple (z.map kD), d) :: rd) (.tuple (y.map kD)) = lookD rd (.tuple (y.map kD)) := by simp [lookD, List.find?_cons, q, e]
      have e2 : valV ((z, v) :: r) y = valV r y := valV_neg e
      rw [e1, e2]
      exact IsDT.look y b
section
variable {X : Cx} {pins : List (Addr × Obj)} {σ : L2.St} {H : Hp} {s : Shared} {A : Around}
theorem key_tup {b : Addr} {ks : List Key} (I : Inv X pins σ H s) (h : SqT X.K H b (ks.map kV)) : (tupleKind (mixKind X.prog X.w)).is s.heap ks b := by
  obtain ⟨its, r, ⟨o, h1, h2, n, h3⟩, _⟩ := I.tuple h
  exact ⟨o, its.toArray, n, h1, h2, h3, by simpa using items_are r⟩
/-- the way to ask a dict with tuple keys: an empty one may have been meant for other keys -/
theorem dictH {a : Addr} {kvs : List (List Key × V)} (I : Inv X pins σ H s) (h : H a = some (.dT kvs) ∨ (kvs = [] ∧ Rd H a (.dK []))) : (a == sysModules) = false ∧ ∃ xs, KT H kvs xs ∧ s.heap.DictOfH (tupleKind (mixKind X.prog X.w)) a xs := by
  rcases h with h | ⟨rfl, h⟩
  · obtain ⟨_, hd, xs, rel, dd⟩ := dt_rd I.hok (.inl h)
    exact ⟨hd, xs, rel, dd⟩
  · obtain ⟨_, hd, vs, rel, dd⟩ := dk_rd I.hok h
    cases rel
    obtain ⟨o, es, ep, h1, h2, h3, h4, h5, _⟩ := dd
    have e0 : es.toList = [] := by
      generalize es.toList = l at h5
      cases h5; rfl
    exact ⟨hd, [], .nil, o, es, ep, h1, h2, h3, e0, fun _ z => (by cases z), List.nodup_nil⟩
theorem dictK {a : Addr} {kvs : List (Key × V)} (I : Inv X pins σ H s) (h : Rd H a (.dK kvs) ∨ (kvs = [] ∧ H a = some (.dT []))) : (a == sysModules) = false ∧ ∃ vs, KV kvs vs ∧ s.heap.DictOf (mixKind X.prog X.w) a vs := by
  rcases h with h | ⟨rfl, h⟩
  · obtain ⟨_, hd, vs, rel, dd⟩ := dk_rd I.hok h
    exact ⟨hd, vs, rel, dd⟩
  · obtain ⟨_, hd, xs, rel, dd⟩ := dt_rd I.hok (.inl h)
    cases rel
    obtain ⟨o, es, ep, h1, h2, h3, h4, _⟩ := dd
    have e0 : es.toList = [] := h4
    refine ⟨hd, [], .nil, o, es, ep, h1, h2, h3, fun e he => ?_, ?_, List.nodup_nil⟩
    · have he' : e ∈ es.toList := Array.mem_toList_iff.mpr he
      rw [e0] at he'; cases he'
    · rw [e0]; constructor
end
/-! ## x in y -/
/-- which dict a key may be asked of -/
def askable (kds : List (D × D)) (x : D) : Bool := match x with
  | .int _ => (kds.all fun p => (key? p.1).isSome)
  | .str _ => (kds.all fun p => (key? p.1).isSome)
  | .tuple xs => (keys? xs).isSome && (kds.all fun p => (key? p.1).isNone)
  | _ => false
def inW (g : Bool → Bool) : O2 := fun a b P => match a, b with
  | .d _ (.str x), .d _ (.str z) => ∃ c, x = ⟨#[c]⟩ ∧ P (.d false (.bool (g (decide (c ∈ z.cps.toList)))))
  | a, b => match dat a with
    | none => False
    | some x => match lv b, tv b, dv b with
      | some ys, _, _ => SeqAt.shaped x = true ∧ SeqAt.shaped (.list ys) = true ∧ P (.d false (.bool (g (ys.any fun z => PyData.eqv z x))))
      | _, some ys, _ => SeqAt.shaped x = true ∧ SeqAt.shaped (.tuple ys) = true ∧ P (.d false (.bool (g (ys.any fun z => PyData.eqv z x))))
      | _, _, some kds => askable kds x = true ∧ P (.d false (.bool (g (lookD kds x).isSome)))
      | _, _, _ => False
theorem tup_line {X : Cx} {xs : List D} {d : D} {xc : ∃ k, Room k X.A} (h : SeqAt.shaped d = true) : X.A.units + 1 + min (PyData.depthAll xs) d.depth < cLine := by
  obtain ⟨k, r⟩ := xc
  exact PyProof.Rows.room_in_shaped h (by have := r.un; omega)
section
variable {X : Cx} {C : Cn}
theorem IsD.nil_of {K : PySem.W.Frag} {k : Bool} {H : Hp} {kvs : List (List Key × V)} {kds : List (D × D)} (h : IsDT K k H kvs kds) (q : (kds.all fun p => (key? p.1).isSome) = true) : kvs = [] ∧ kds = [] := by
  cases h with
  | nil => exact ⟨rfl, rfl⟩
  | cons a b => simp [key?] at q
theorem IsDT.nil_of {K : PySem.W.Frag} {k : Bool} {H : Hp} {kvs : List (Key × V)} {kds : List (D × D)} (h : IsD K k H kvs kds) (q : (kds.all fun p => (key? p.1).isNone) = true) : kvs = [] ∧ kds = [] := by
  cases h with
  | nil => exact ⟨rfl, rfl⟩
  | @cons y _ _ _ _ a b => cases y <;> simp [key?, kD] at q
/-- asked of a dict: its own words -/
theorem askD {pins : List (Addr × Obj)} {s : Shared} {σ : L2.St} {H G : Hp} {x : V} {v : Value} {kds : List (D × D)} {d : D} {k k' : Bool} {p : Addr} (xc : XC X C) (I : Inv X pins σ H s) (ix : Is C.K k' H x d) (rx : RelV x v) (ok : askable kds d = true)
    (h : (∃ kvs, Rd H p (.dK kvs) ∧ IsD C.K k G kvs kds) ∨ ∃ kvs, H p = some (.dT kvs) ∧ IsDT C.K k G kvs kds) :
    (p == sysModules) = false ∧ ((∃ (y : Key) (kvs : List (Key × V)) (vs : List (Key × Value)), d = kD y ∧ (mixKind X.prog X.w).is y v = true ∧ IsD C.K k G kvs kds ∧ KV kvs vs ∧ s.heap.DictOf (mixKind X.prog X.w) p vs) ∨
      ∃ (b : Addr) (ks : List Key) (kvs : List (List Key × V)) (xs : List (List Key × Addr × Value)), d = .tuple (ks.map kD) ∧ v = .ref b ∧ (tupleKind (mixKind X.prog X.w)).is s.heap ks b ∧ IsDT C.K k G kvs kds ∧ KT H kvs xs ∧ s.heap.DictOfH (tupleKind (mixKind X.prog X.w)) p xs) := by
  have scalar : ∀ y : Key, d = kD y → (kds.all fun p => (key? p.1).isSome) = true → (p == sysModules) = false ∧ ∃ (y : Key) (kvs : List (Key × V)) (vs : List (Key × Value)), d = kD y ∧ (mixKind X.prog X.w).is y v = true ∧ IsD C.K k G kvs kds ∧ KV kvs vs ∧ s.heap.DictOf (mixKind X.prog X.w) p vs := by
    intro y e q
    subst e
    have ev := ix.key
    subst ev
    rcases h with ⟨kvs, h1, h2⟩ | ⟨kvs, h1, h2⟩
    · obtain ⟨hd, vs, rel, dd⟩ := dictK I (.inl h1)
      exact ⟨hd, y, kvs, vs, rfl, kV_is rx, h2, rel, dd⟩
    · obtain ⟨rfl, rfl⟩ := IsD.nil_of h2 q
      obtain ⟨hd, vs, rel, dd⟩ := dictK (kvs := []) I (.inr ⟨rfl, h1⟩)
      exact ⟨hd, y, [], vs, rfl, kV_is rx, .nil, rel, dd⟩
  unfold askable at ok
  split at ok
  · obtain ⟨hd, r⟩ := scalar (.inl _) rfl ok
    exact ⟨hd, .inl r⟩
  · obtain ⟨hd, r⟩ := scalar (.inr _) rfl ok
    exact ⟨hd, .inl r⟩
  · rename_i xs
    rw [Bool.and_eq_true] at ok
    obtain ⟨ks, eks⟩ := Option.isSome_iff_exists.mp ok.1
    have exs := keys_of? eks
    subst exs
    have hb : ∃ b, x = .ref b ∧ SqT X.K H b (ks.map kV) := by
      rw [xc.K]
      cases ix with
      | tup e _ i => rw [i.keys] at e; exact ⟨_, rfl, SqT.of e⟩
      | tupK _ e _ i => rw [i.keys] at e; exact ⟨_, rfl, e⟩
    obtain ⟨b, rfl, hb⟩ := hb
    obtain rfl : v = .ref b := rx
    have hk := key_tup I hb
    rcases h with ⟨kvs, h1, h2⟩ | ⟨kvs, h1, h2⟩
    · obtain ⟨rfl, rfl⟩ := IsDT.nil_of h2 ok.2
      obtain ⟨hd, xs, rel, dd⟩ := dictH (kvs := []) I (.inr ⟨rfl, h1⟩)
      exact ⟨hd, .inr ⟨b, ks, [], xs, rfl, rfl, hk, .nil, rel, dd⟩⟩
    · obtain ⟨hd, xs, rel, dd⟩ := dictH I (.inl h1)
      exact ⟨hd, .inr ⟨b, ks, kvs, xs, rfl, rfl, hk, h2, rel, dd⟩⟩
  · cases ok
theorem dop_inAny {o : CmpOp} {g : Bool → Bool} (xc : XC X C) (h1 : OpR X (compareOp o) (fun x y H Q => ∃ (c : Nat) (z : Str), x = .str ⟨#[c]⟩ ∧ y = .str z ∧ Q (.bl (g (decide (c ∈ z.cps.toList)))) H))
    (h2 : ∀ (s : Shared) (v u : Value) (d : D) (xs : List D) (as bs : List Addr) (Q : Value → Shared → Prop), Reads s.heap u (.list xs) as ∨ Reads s.heap u (.tuple xs) as → Reads s.heap v d bs → PyData.canLayAll0 xs = true → SeqAt.shaped d = true → Q (.bool (g (xs.any fun z => PyData.eqv z d))) s → wpAny (model X.prog X.w) X.A (compareOp o v u) Q X.xe s)
    (h3 : ∀ (s : Shared) (v : Value) (p : Addr) (vs : List (Key × Value)) (y : Key) (Q : Value → Shared → Prop), (p == sysModules) = false → (mixKind X.prog X.w).is y v = true → s.heap.DictOf (mixKind X.prog X.w) p vs → (∀ t, Q (.bool (g (valueAt vs y).isSome)) { s with toks := t }) → wpAny (model X.prog X.w) X.A (compareOp o v (.ref p)) Q X.xe s)
    (h4 : ∀ (s : Shared) (b p : Addr) (xs : List (List Key × Addr × Value)) (y : List Key) (Q : Value → Shared → Prop), (p == sysModules) = false → (tupleKind (mixKind X.prog X.w)).is s.heap y b → s.heap.DictOfH (tupleKind (mixKind X.prog X.w)) p xs → (∀ t, Q (.bool (g (atKey xs y).isSome)) { s with toks := t }) → wpAny (model X.prog X.w) X.A (compareOp o (.ref b) (.ref p)) Q X.xe s) :
    DOp X C (compareOp o) (inW g) := by
  intro pins s σ H x y v u Q I rx ry h
  obtain ⟨G, a, b, P, w, ia, ib, h, kt⟩ := h
  unfold inW at h
  split at h
  · obtain ⟨c, rfl, p⟩ := h
    cases ia; cases ib
    exact h1 pins s σ H _ _ v u Q I rx ry ⟨c, _, rfl, rfl, rD_ret w kt p (.bl _)⟩
  · split at h
    · exact h.elim
    · rename_i d ed
      have da := dat_is ed w ia
      have seq : ∀ xs : List D, (Is C.K (flg b) H y (.list xs) ∨ Is C.K (flg b) H y (.tuple xs)) → SeqAt.shaped d = true → PyData.canLayAll0 xs = true → P (.d false (.bool (g (xs.any fun z => PyData.eqv z d)))) → wpAny (model X.prog X.w) X.A (compareOp o v u) (EP X pins σ Q) X.xe s := by
        intro xs hy sd sx p
        rw [← xc.K] at da hy
        obtain ⟨bs, r2⟩ := Is.reads I d x v (SeqAt.canLay_of_shaped sd) da rx
        rcases hy with hy | hy
        · obtain ⟨as, r1⟩ := Is.reads I (.list xs) y u (by simpa [PyData.canLay0] using sx) hy ry
          exact h2 s v u d xs as bs _ (.inl r1) r2 sx sd ⟨.bl _, H, I, rfl, rD_ret w kt p (.bl _)⟩
        · obtain ⟨as, r1⟩ := Is.reads I (.tuple xs) y u (by simpa [PyData.canLay0] using sx) hy ry
          exact h2 s v u d xs as bs _ (.inr r1) r2 sx sd ⟨.bl _, H, I, rfl, rD_ret w kt p (.bl _)⟩
      split at h
      · rename_i ys e1
        obtain ⟨p1, vs, rfl, q1, i1, z1⟩ := lv_is e1 w ib
        exact seq ys (.inl (.lst q1 z1 (i1.mono w.sub))) h.1 (by simpa [PyData.canLay0] using SeqAt.canLay_of_shaped h.2.1) h.2.2
      · rename_i ys e1 _
        exact seq ys (.inr (dat_is (tv_dat e1) w ib)) h.1 (by simpa [PyData.canLay0] using SeqAt.canLay_of_shaped h.2.1) h.2.2
      · rename_i kds e1 _ _
        obtain ⟨p1, rfl, hd⟩ := dv_is e1 w ib
        obtain rfl : u = .ref p1 := ry
        obtain ⟨hsys, ⟨y, kvs, vs, rfl, hk, hi, rel, dd⟩ | ⟨b, ks, kvs, xs, rfl, rfl, hk, hi, rel, dd⟩⟩ := askD xc I da rx h.1 hd
        · refine h3 s v p1 vs y _ hsys hk dd fun t => ⟨.bl _, H, I.tok t, rfl, ?_⟩
          have e2 := (rel.val y).isSome_eq
          rw [← e2]
          rcases hi.look y with ⟨n1, n2⟩ | ⟨d', v', n1, n2, _⟩
          · rw [n2]; rw [n1] at h; exact rD_ret w kt h.2 (.bl _)
          · rw [n2]; rw [n1] at h; exact rD_ret w kt h.2 (.bl _)
        · refine h4 s b p1 xs ks _ hsys hk dd fun t => ⟨.bl _, H, I.tok t, rfl, ?_⟩
          have e2 := (rel.val ks).isSome_eq
          rw [Option.isSome_map] at e2
          rw [← e2]
          rcases hi.look ks with ⟨n1, n2⟩ | ⟨d', v', n1, n2, _⟩
          · rw [n2]; rw [n1] at h; exact rD_ret w kt h.2 (.bl _)
          · rw [n2]; rw [n1] at h; exact rD_ret w kt h.2 (.bl _)
      · exact h.elim
theorem dop_in (xc : XC X C) : DOp X C (compareOp .In) (inW id) := by
  obtain ⟨k, r⟩ := xc.room
  refine dop_inAny xc op_in_sign (fun s v u d xs as bs Q r1 r2 sx sd q => ?_) (fun s v p vs y Q hs hk dd q => wpAny_in_of hk hs dd.mapOf (q _)) (fun s b p xs y Q hs hk dd q => wpAny_in_heap (tupleKind_room_in1 (by have := r.un; omega)) hk hs dd (q _))
  rcases r1 with r1 | r1
  · exact SeqAt.in_list_reads r1 r2 sx (SeqAt.canLay_of_shaped sd) (tup_line (xc := xc.room) sd) q
  · exact SeqAt.in_tuple_reads r1 r2 sx (SeqAt.canLay_of_shaped sd) (tup_line (xc := xc.room) sd) q
theorem dop_notIn (xc : XC X C) : DOp X C (compareOp .NotIn) (inW (!·)) := by
  obtain ⟨k, r⟩ := xc.room
  refine dop_inAny xc op_notIn_sign (fun s v u d xs as bs Q r1 r2 sx sd q => ?_) (fun s v p vs y Q hs hk dd q => wpAny_notIn_of hk hs dd.mapOf (q _)) (fun s b p xs y Q hs hk dd q => wpAny_notIn_heap (tupleKind_room_in1 (by have := r.un; omega)) hk hs dd (q _))
  rcases r1 with r1 | r1
  · exact SeqAt.notIn_list_reads r1 r2 sx (SeqAt.canLay_of_shaped sd) (tup_line (xc := xc.room) sd) q
  · exact SeqAt.notIn_tuple_reads r1 r2 sx (SeqAt.canLay_of_shaped sd) (tup_line (xc := xc.room) sd) q
end
end DL
set_option Elab.async false
set_option linter.all false
set_option maxRecDepth 100000
set_option maxHeartbeats 1000000
namespace DL
open PySem PySem.Spec PyProof.Rows L2
/-! ## subscripts, slices -/
section
variable {X : Cx} {C : Cn} {pos p2 : Pos} {a b e : Expr} {fa fb fe : W1}
def ixW : O2 := fun a b P => match b with
  | .d _ (.int i) => match lv a, tv a, a with
    | some xs, _, _ => ∃ x, atI xs i = some x ∧ P (.d (flg a) x)
    | _, some xs, _ => ∃ x, atI xs i = some x ∧ P (.d (flg a) x)
    | _, _, .d _ (.str z) => z.length ≤ sizeLine ∧ ∃ c, atI z.cps.toList i = some c ∧ P (.d false (.str ⟨#[c]⟩))
    | _, _, _ => False
  | _ => False
theorem IsL.atI {K : PySem.W.Frag} {k : Bool} {H : Hp} {vs : List V} {ds : List D} {i : Int} {x : D} (h : IsL K k H vs ds) (e : L2.atI ds i = some x) : ∃ v, L2.atI vs i = some v ∧ Is K k H v x := by
  unfold L2.atI at e ⊢
  rw [h.length]
  cases q : ixN ds.length i with
  | none => rw [q] at e; cases e
  | some j =>
    rw [q] at e
    exact IsL.get h e
theorem ixr (xc : XC X C) : IxR X (rD C ixW) := by
  intro value slice pins s σ H x y v u Q I rx ry h hs
  obtain ⟨G, a, b, P, w, ia, ib, h, kt⟩ := h
  unfold ixW at h
  split at h
  · cases ib
    have o1 := ix_list (X := X)
    have o2 := ix_tup (X := X)
    split at h
    · rename_i xs e1
      obtain ⟨x, ex, p⟩ := h
      obtain ⟨p1, vs, rfl, q1, i1, z1⟩ := lv_is e1 w ia
      obtain ⟨z, ez, iz⟩ := i1.atI ex
      exact o1 value slice pins s σ H _ _ v u Q I rx ry ⟨p1, vs, _, z, rfl, rfl, SqL.of q1, ez, rD_ret w kt p iz⟩ hs
    · rename_i xs e1 _
      obtain ⟨x, ex, p⟩ := h
      obtain ⟨p1, vs, rfl, q1, i1, _, z1⟩ := tv_is e1 w ia
      obtain ⟨z, ez, iz⟩ := i1.atI ex
      exact o2 value slice pins s σ H _ _ v u Q I rx ry ⟨p1, vs, _, z, rfl, rfl, by rw [xc.K]; exact q1, ez, rD_ret w kt p iz⟩ hs
    · obtain ⟨hz, c, ec, p⟩ := h
      cases ia
      exact ix_str value slice pins s σ H _ _ v u Q I rx ry ⟨_, _, c, rfl, rfl, hz, ec, rD_ret w kt p (.str _)⟩ hs
    · exact h.elim
  · exact h.elim
theorem de_ix {c1 c2 : Nat} (xc : XC X C) (ha : DE X C c1 a fa) (hb : DE X C c2 b fb) (hs : PlainIx b := by intro _ _; rfl) : DE X C (c1 + c2) (.Subscript a b pos) (bin2 ixW fa fb) := PE.imp (pe_ix (ixr xc) ha hb hs) td_bin
/-- d[k] -/
def dgW : O2 := fun a b P => match dv a, dat b with
  | some kds, some x => askable kds x = true ∧ ∃ d, lookD kds x = some d ∧ P (.d (flg a) d)
  | _, _ => False
theorem de_dg {c1 c2 : Nat} (xc : XC X C) (ha : DE X C c1 a fa) (hb : DE X C c2 b fb) (hs : NoSl b := by intro _ _; rfl) : DE X C (c1 + c2) (.Subscript a b pos) (bin2 dgW fa fb) := by
  refine ⟨fun pins s σ H Q I h => ?_⟩
  obtain ⟨k, r⟩ := xc.room
  refine subD_of PySem.F.slot_dict_getitem.lookup hs (thn (ha.run pins s σ H _ I (td_bin σ H Q h)) fun u s1 ⟨x, H1, I1, rx, q1⟩ => thn (hb.run pins s1 σ H1 _ I1 q1) fun v s2 ⟨y, H2, I2, ry, q2⟩ => ?_)
  obtain ⟨G, sa, sb, P, w, ia, ib, h, kt⟩ := q2
  unfold dgW at h
  split at h
  · rename_i kds d e1 e2
    obtain ⟨ok, dd, el, p⟩ := h
    obtain ⟨p1, rfl, hd⟩ := dv_is e1 w ia
    obtain rfl : u = .ref p1 := rx
    obtain ⟨hsys, ⟨y, kvs, vs, rfl, hk, hi, rel, dq⟩ | ⟨b, ks, kvs, xs, rfl, rfl, hk, hi, rel, dq⟩⟩ := askD xc I2 (dat_is e2 w ib) ry ok hd
    · refine ⟨dq.typeIs, ?_⟩
      rcases hi.look y with ⟨n1, n2⟩ | ⟨d', v', n1, n2, n3⟩
      · rw [n1] at el; cases el
      · rw [n1] at el; cases el
        obtain ⟨w', hw, rw'⟩ := RelO.some_of (v := v') (o := valueAt vs y) (by rw [← n2]; exact rel.val y)
        exact wpAny_getItem_of hk dq.mapOf hw ⟨v', H2, I2.tok _, rw', rD_ret w kt p n3⟩
    · refine ⟨dq.typeIs, ?_⟩
      rcases hi.look ks with ⟨n1, n2⟩ | ⟨d', v', n1, n2, n3⟩
      · rw [n1] at el; cases el
      · rw [n1] at el; cases el
        obtain ⟨w', hw, rw'⟩ := RelO.some_of (v := v') (o := (atKey xs ks).map (·.2)) (by rw [← n2]; exact rel.val ks)
        obtain ⟨pp, hp, hp2⟩ := Option.map_eq_some_iff.mp hw
        refine wpAny_getItem_heap (tupleKind_room_in1 (by have := r.un; omega)) hk dq hp ?_
        rw [hp2]
        exact ⟨v', H2, I2.tok _, rw', rD_ret w kt p n3⟩
  · exact h.elim
/-! slices -/
abbrev WO := Env → (Option Int → Prop) → (Str → Prop) → Prop
def TDO (C : Cn) (c : Nat) (f : WO) : TO := fun σ H Q => ∃ G ρ P, RelN C c G ρ σ H ∧ f ρ P C.ex ∧ ∀ o G' H', P o → StepN C.toBs c G H G' H' → Q o H'
def DO (X : Cx) (C : Cn) (c : Nat) (e : Option Expr) (f : WO) : Prop := PO X e (TDO C c f)
theorem do_none : DO X C 0 none (fun _ P _ => P none) := by
  refine ⟨fun pins s σ H Q I h => po_none.run pins s σ H Q I ?_⟩
  obtain ⟨G, ρ, P, R, hf, k⟩ := h
  exact k _ G H hf (StepN.refl R.ok)
theorem do_some {c1 : Nat} (h : DE X C c1 e fe) : DO X C c1 (some e) (fun ρ P E => fe ρ (fun s => match s with | .d _ (.int i) => P (some i) | _ => False) E) := by
  refine ⟨fun pins s σ H Q I hq => (po_some h).run pins s σ H Q I ?_⟩
  obtain ⟨G, ρ, P, R, hf, k⟩ := hq
  refine ⟨G, ρ, _, R, hf, fun s v G' H' p S V => ?_⟩
  split at p
  · obtain ⟨V, _⟩ := V
    cases V
    exact ⟨_, rfl, k _ G' H' p S⟩
  · exact p.elim
def cutD (xs : List D) (lo hi : Option Int) : List D := (xs.drop (HT.sIx xs.length 0 lo)).take (HT.sIx xs.length xs.length hi - HT.sIx xs.length 0 lo)
def slW (s : SV) (lo hi : Option Int) (P : SV → Prop) : Prop := match lv s, tvd s, s with
  | some xs, _, _ => P (.fr (flg s) (.list (cutD xs lo hi)))
  | _, some xs, _ => P (.d (flg s) (.tuple (cutD xs lo hi)))
  | _, _, .d _ (.str z) => z.length ≤ sizeLine ∧ P (.d false (.str (cutS z lo hi)))
  | _, _, _ => False
theorem IsL.cut {K : PySem.W.Frag} {k : Bool} {H : Hp} {vs : List V} {ds : List D} (h : IsL K k H vs ds) (lo hi : Option Int) : IsL K k H (cutV vs lo hi) (cutD ds lo hi) := by
  unfold cutV cutD
  rw [h.length]
  exact (h.drop _).take _
theorem cut_len {vs : List V} (lo hi : Option Int) : (cutV vs lo hi).length ≤ vs.length := by
  unfold cutV
  exact Nat.le_trans (by rw [List.length_take]; exact Nat.min_le_right _ _) (by rw [List.length_drop]; exact Nat.sub_le _ _)
def rSD (C : Cn) : V → Option Int → Option Int → Hp → VK → Prop := fun x lo hi H Q => ∃ G a P, WOk C.toBs G H ∧ IsV C.toBs G H x a ∧ slW a lo hi P ∧ Kont C H G P Q
theorem slr (xc : XC X C) : SlR X (rSD C) := by
  intro pins s σ H x v vl vu lo hi sl Q I rx hs pl pu h
  obtain ⟨G, a, P, w, ia, h, kt⟩ := h
  unfold slW at h
  split at h
  · rename_i xs e1
    obtain ⟨p1, vs, rfl, q1, i1, z1⟩ := lv_is e1 w ia
    exact sl_list pins s σ H _ v vl vu lo hi sl Q I rx hs pl pu ⟨p1, vs, rfl, SqL.of q1, rD_fr w kt h (Nat.le_trans (cut_len lo hi) z1) (i1.cut lo hi)⟩
  · rename_i xs e1 _
    obtain ⟨p1, vs, rfl, q1, i1, _, z1⟩ := tv_is (tv_d e1).2 w ia
    have ia' := ia
    rw [(tv_d e1).1] at ia'
    refine sl_tupA pins s σ H _ v vl vu lo hi sl Q I rx hs pl pu ⟨p1, vs, rfl, by rw [xc.K]; exact q1, fun hw => ?_, fun _ => rD_tup w kt h (Nat.le_trans (cut_len lo hi) z1) (i1.cut lo hi)⟩
    have e : cutD xs lo hi = xs := by
      unfold cutD
      rw [i1.length] at hw
      rw [hw.1, hw.2, List.drop_zero, Nat.sub_zero, List.take_length]
    rw [e] at h
    exact rD_ret w kt h ia'
  · cases ia
    exact sl_str pins s σ H _ v vl vu lo hi sl Q I rx hs pl pu ⟨_, rfl, h.1, rD_ret w kt h.2 (.str _)⟩
  · exact h.elim
variable {lo hi : Option Expr} {fl fh : WO}
theorem de_sl {c1 c2 c3 : Nat} (xc : XC X C) (ha : DE X C c1 a fa) (hl : DO X C c2 lo fl) (hh : DO X C c3 hi fh) : DE X C (c1 + (c2 + c3)) (.Subscript a (.Slice lo hi none p2) pos) (fun ρ P E => fa ρ (fun s => fl ρ (fun l => fh ρ (fun h => slW s l h P) E) E) E) := by
  refine PE.imp (pe_slice (slr xc) ha hl hh) ?_
  rintro σ H Q ⟨G, ρ, P, R, hf, k⟩
  refine ⟨G, ρ, _, R.l, hf, fun s v G1 H1 p S V => ⟨G1, ρ, _, (R.next S).l, p, fun l G2 H2 p2 S2 => ⟨G2, ρ, _, (R.next S).next S2, p2, fun h G3 H3 p3 S3 => ?_⟩⟩⟩
  exact ⟨G3, s, P, S3.ok, (V.1.step S2).step S3, p3, fun sv v G4 H4 q S4 V4 => k sv v G4 H4 q (S.trans (S2.trans (S3.trans S4))) (V4.lower (S.trans (S2.trans S3)))⟩
end
/-! ## own defs -/
abbrev FS := List SV → (SV → Prop) → (Str → Prop) → Prop
/-- what a def promises -/
def FP (K : PySem.W.Frag) (mg : Str → Option Value) (T : List (Addr × Str)) (c : Nat) (n : Nat) (f : FS) : Sp := fun vs H Q E => ∃ (B : Bs) (G : Hp) (ss : List SV) (P : SV → Prop) (Ex : Str → Prop), B.K = K ∧ B.mg = mg ∧ B.T = T ∧ (∀ a g t, B.st = some (a, g) → TurnIs H a t → t + c ≤ capT) ∧ WOk B G H ∧ IsVs B G H vs ss ∧ ss.length = n ∧ f ss P Ex ∧
  (∀ s v G' H', P s → StepN B c G H G' H' → IsR B H G' H' v s → (∀ k x, s ≠ .own k x) → Q v H') ∧ ∀ (nm : Str) (cl : Value) (G' H' : Hp), Ex nm → mg nm = some cl → StepN B c G H G' H' → E cl none H'
structure DFn (P : Program) (w : World) (K : PySem.W.Frag) (mg : Str → Option Value) (base : Heap) (T : List (Addr × Str)) (gd : Bool) (c : Nat) (k : Nat) (x : Str) (ps : List Str) (f : FS) : Prop where
  ex : ∃ (a : Addr) (fd : FuncData), FnG P w K mg base gd k a fd ps (FP K mg T c ps.length f) ∧ mg x = some (.ref a) ∧ PySem.W.keepIn K (.ref a) = true ∧ Binds K fd ps [] ∧ ∃ oc od osl, K.lookup a = some ⟨oc, od, .func fd, osl⟩
theorem DFn.imp {P : Program} {w : World} {K : PySem.W.Frag} {mg : Str → Option Value} {base : Heap} {T : List (Addr × Str)} {gd : Bool} {c k : Nat} {x : Str} {ps : List Str} {f g : FS} (F : DFn P w K mg base T gd c k x ps f) (h : ∀ ss P E, ss.length = ps.length → g ss P E → f ss P E) : DFn P w K mg base T gd c k x ps g := by
  obtain ⟨a, fd, F, r⟩ := F.ex
  refine ⟨a, fd, F.imp ?_, r⟩
  rintro vs H Q E ⟨B, G, ss, P, Ex, h1, h2, hT, h0, h3, h4, h5, h6, h7⟩
  exact ⟨B, G, ss, P, Ex, h1, h2, hT, h0, h3, h4, h5, h _ _ _ h5 h6, h7⟩
section
variable {X : Cx} {C : Cn} {pos p : Pos} {x : Str} {e : Expr} {es : List Expr} {fa : WA} {gd : Bool} {k n c c1 : Nat} {f : FS} {ps : List Str}
theorem td_call {E : XK} (hE : E = C.E) (hK : X.K = C.K) (hmg : X.mg = C.mg) (lk : ∀ (n : Str) (c : Value) (G' H' : Hp), C.ex n → C.mg n = some c → StepN C.toBs C.lim C.G0 C.H0 G' H' → C.E c none H') {m : Nat} (hm : m = n) :
    ∀ σ H Q, TD C (c1 + c) (fun ρ P Ex => fa ρ (fun ss => f ss P Ex) Ex) σ H Q → tCall (FP X.K X.mg C.T c n f) [] E (TDA C c1 m fa) σ H Q := by
  rintro σ H Q ⟨G, ρ, P, R, hf, kt⟩
  subst hE
  refine ⟨G, ρ, _, R.l, hf, fun ss vs G1 H1 p hl S V => ?_⟩
  show FP X.K X.mg C.T c n f (vs ++ []) H1 Q C.E
  rw [List.append_nil]
  refine ⟨C.toBs, G1, ss, P, C.ex, hK.symm, hmg.symm, rfl, (R.next S).capNow, S.ok, V, hl.trans hm, p, fun s v G' H' q S2 V2 no => kt s v G' H' q (S.trans S2) (V2.lower S), fun nm c G' H' q m S2 => lk nm c G' H' q (by rw [← hmg]; exact m) (R.out (S.trans S2))⟩
theorem callG {sp : Sp} {E : XK} {a : Addr} {fd : FuncData} {ps : List Str} (F : FnG X.prog X.w X.K X.mg X.base gd k a fd ps sp) (hgu : gd = true → X.A.guards = some []) (hr : Room k X.A) (hx : Passes (CX X.prog X.w) X E) (hb : Binds X.K fd ps []) {pins : List (Addr × Obj)} {s : Shared} {σ : L2.St} {H : Hp} {Q : VK} {us : List Value} {vs : List V}
    (I : L2.Inv X pins σ H s) (r : Vals vs us) (h : sp vs H Q E) : wpAny (model X.prog X.w) X.A (call (.ref a) us) (EP X pins σ Q) X.xe s := by
  have hl : us.length = ps.length := by rw [← r.length]; exact F.len _ _ _ _ h
  have hb' := hb s us I.kIn (by rw [List.append_nil]; exact hl)
  rw [List.append_nil] at hb'
  refine wpAny_call (codeAny_mono (F.go X.A X.stack s H ⟨us, []⟩ us vs Q E hgu hr I.env0 hb' r h) ?_)
  intro res s' hq
  match res, hq with
  | .error e, hq => exact hx pins σ H s e s' I hq
  | .ok (.ret u), hq => exact I.after hq
theorem de_call (F : DFn X.prog X.w X.K X.mg X.base C.T gd c k x ps f) (xc : XC X C) (hgd : gd = true → C.gd = true) (hr : Room k X.A) (ha : DA X C c1 (e :: es) fa) (hg : Gl X x := by rfl) (hn : (e :: es).length = ps.length := by rfl) (hdb : (x == ("__debug__" : Str)) = false := by decide)
    (he : starEach (e :: es) X.env = (false, eval e X.env) :: starEach es X.env := by rfl) (hpl : (backTo pos (starEach es X.env)).any (·.1) = false := by rfl) :
    DE X C (c1 + c) (.Call (.Name x p) (e :: es) [] pos) (fun ρ P E => fa ρ (fun ss => f ss P E) E) := by
  obtain ⟨a, fd, F, hm, hk, hb, _⟩ := F.ex
  refine PE.imp (t := tCall (FP X.K X.mg C.T c ps.length f) [] C.E (TDA C c1 (e :: es).length fa)) ⟨fun pins s σ H Q I h => ?_⟩ (td_call rfl xc.K xc.mg xc.link hn)
  refine wpAny_Call_Name_kw (ld_glob I hg hm ?_ hdb)
  refine PySem.W.callWith_K (h₀ := X.base) I.ok.mod.kin hk (thn (ha.run pos pins s σ H _ I h) fun us s1 ⟨vs, H1, I1, r, q⟩ => ⟨I1.kIn, ?_⟩) he hpl
  have q : FP X.K X.mg C.T c ps.length f (vs ++ []) H1 Q C.E := q
  rw [List.append_nil] at q
  exact callG F (fun h => xc.guards (hgd h)) hr xc.pass hb I1 r q
theorem de_call0 (F : DFn X.prog X.w X.K X.mg X.base C.T gd c k x [] f) (xc : XC X C) (hgd : gd = true → C.gd = true) (hr : Room k X.A) (hg : Gl X x := by rfl) (hdb : (x == ("__debug__" : Str)) = false := by decide) : DE X C c (.Call (.Name x p) [] [] pos) (fun ρ P E => f [] P E) := by
  obtain ⟨a, fd, F, hm, hk, hb, _⟩ := F.ex
  refine ⟨fun pins s σ H Q I h => ?_⟩
  obtain ⟨G, ρ, P, R, hf, kt⟩ := h
  refine wpAny_Call_Name_kw (ld_glob I hg hm ?_ hdb)
  refine PySem.W.callWith_K0 I.kIn hk (callG (us := []) (vs := []) F (fun h => xc.guards (hgd h)) hr xc.pass hb I .nil ?_)
  exact ⟨C.toBs, G, [], P, C.ex, xc.K.symm, xc.mg.symm, rfl, R.capNow, R.ok, .nil, rfl, hf, fun s v G' H' q S2 V2 no => kt s v G' H' q S2 V2, fun nm c G' H' q m S2 => xc.link nm c G' H' q (by rw [← xc.mg]; exact m) (R.out S2)⟩
end
end DL
set_option Elab.async false
set_option linter.all false
set_option maxRecDepth 100000
set_option maxHeartbeats 1000000
namespace DL
open PySem PySem.Spec PyProof.Rows L2
/-! ## statements -/
structure En where
  nx : Env → Prop
  rt : SV → Prop
  bk : Env → Prop := fun _ => False
  ct : Env → Prop := fun _ => False
abbrev WS := Env → En → (Str → Prop) → Prop
structure EnOk (C : Cn) (c : Nat) (G H : Hp) (N : En) (D : Ends) : Prop where
  nx : ∀ G' ρ σ H', Same G G' → Gr C.toBs c H H' → N.nx ρ → Rel C G' ρ σ H' → D.nx σ H'
  rt : ∀ s v G' H', N.rt s → Step C.toBs C.G0 C.H0 G' H' → Gr C.toBs c H H' → IsR C.toBs C.H0 G' H' v s → (∀ k x, s ≠ .own k x) → D.rt v H'
  bk : ∀ G' ρ σ H', Same G G' → Gr C.toBs c H H' → N.bk ρ → Rel C G' ρ σ H' → D.bk σ H'
  ct : ∀ G' ρ σ H', Same G G' → Gr C.toBs c H H' → N.ct ρ → Rel C G' ρ σ H' → D.ct σ H'
/-- behind a step -/
theorem EnOk.up {C : Cn} {c1 c2 : Nat} {G G' H H' : Hp} {N : En} {D : Ends} (h : EnOk C (c1 + c2) G H N D) (S : StepN C.toBs c1 G H G' H') : EnOk C c2 G' H' N D :=
  ⟨fun _ _ _ _ s g => h.nx _ _ _ _ (S.sub.trans s) (S.gr.trans S.ok g), fun _ _ _ _ q e g => h.rt _ _ _ _ q e (S.gr.trans S.ok g), fun _ _ _ _ s g => h.bk _ _ _ _ (S.sub.trans s) (S.gr.trans S.ok g), fun _ _ _ _ s g => h.ct _ _ _ _ (S.sub.trans s) (S.gr.trans S.ok g)⟩
theorem EnOk.le {C : Cn} {c1 c2 : Nat} {G H : Hp} {N : En} {D : Ends} (h : EnOk C c2 G H N D) (e : c1 ≤ c2) : EnOk C c1 G H N D :=
  ⟨fun _ _ _ _ s g => h.nx _ _ _ _ s (g.le e), fun _ _ _ _ q z g => h.rt _ _ _ _ q z (g.le e), fun _ _ _ _ s g => h.bk _ _ _ _ s (g.le e), fun _ _ _ _ s g => h.ct _ _ _ _ s (g.le e)⟩
theorem EnOk.frz {C : Cn} {c : Nat} {G G' H : Hp} {N : En} {D : Ends} (h : EnOk C c G H N D) (e : Same G G') : EnOk C c G' H N D :=
  ⟨fun _ _ _ _ s => h.nx _ _ _ _ (e.trans s), h.rt, fun _ _ _ _ s => h.bk _ _ _ _ (e.trans s), fun _ _ _ _ s => h.ct _ _ _ _ (e.trans s)⟩
theorem EnOk.upG {C : Cn} {c1 c2 : Nat} {G G' H H' : Hp} {N : En} {D : Ends} (h : EnOk C (c1 + c2) G H N D) (s : Same G G') (g1 : Gr C.toBs c1 H H') (w : WOk C.toBs G H) (w' : WOk C.toBs G' H') : EnOk C c2 G' H' N D :=
  ⟨fun _ _ _ _ s2 g => h.nx _ _ _ _ (s.trans s2) (g1.trans w' g), fun _ _ _ _ q e g => h.rt _ _ _ _ q e (g1.trans w' g), fun _ _ _ _ s2 g => h.bk _ _ _ _ (s.trans s2) (g1.trans w' g), fun _ _ _ _ s2 g => h.ct _ _ _ _ (s.trans s2) (g1.trans w' g)⟩
theorem Gr.refl {B : Bs} {H : Hp} : Gr B 0 H H := Gr.same fun _ _ => rfl
def TDS (C : Cn) (c : Nat) (f : WS) : TS := fun D σ H => ∃ G ρ N, RelN C c G ρ σ H ∧ f ρ N C.ex ∧ EnOk C c G H N D
def DS (X : Cx) (C : Cn) (c : Nat) (st : Stmt) (f : WS) : Prop := PS X st (TDS C c f)
def DSs (X : Cx) (C : Cn) (c : Nat) (st : List Stmt) (f : WS) : Prop := PSs X st (TDS C c f)
section
variable {X : Cx} {C : Cn} {pos p pos' : Pos} {st : Stmt} {rest sa sb : List Stmt} {f g : WS} {e : Expr} {fe : W1} {c : Expr} {fc : WB} {x : Str} {i j : Nat} {c1 c2 c3 : Nat}
theorem dss_nil : DSs X C 0 [] (fun ρ N _ => N.nx ρ) := by
  refine PSs.imp pss_nil ?_
  rintro D σ H ⟨G, ρ, N, R, h, ok⟩
  exact ok.nx G ρ σ H (Same.refl _) Gr.refl h R
theorem dss_one (h : DS X C c1 st f) : DSs X C c1 [st] f := pss_one h
abbrev seqW (f g : WS) : WS := fun ρ N E => f ρ { N with nx := fun ρ' => g ρ' N E } E
theorem dss_cons (h : DS X C c1 st f) (h' : DSs X C c2 rest g) : DSs X C (c1 + c2) (st :: rest) (seqW f g) := by
  refine PSs.imp (pss_cons h h') ?_
  rintro D σ H ⟨G, ρ, N, R, hf, ok⟩
  exact ⟨G, ρ, _, R.l, hf, fun G' ρ' σ' H' s g n R' => ⟨G', ρ', N, R.go g R', n, ok.upG s g R.ok R'.ok⟩, (ok.le (Nat.le_add_right _ _)).rt, (ok.le (Nat.le_add_right _ _)).bk, (ok.le (Nat.le_add_right _ _)).ct⟩
theorem ds_pass : DS X C 0 (.Pass pos) (fun ρ N _ => N.nx ρ) := by
  refine PS.imp ps_pass ?_
  rintro D σ H ⟨G, ρ, N, R, h, ok⟩
  exact ok.nx G ρ σ H (Same.refl _) Gr.refl h R
theorem ds_break : DS X C 0 (.Break pos) (fun ρ N _ => N.bk ρ) := by
  refine PS.imp ps_break ?_
  rintro D σ H ⟨G, ρ, N, R, h, ok⟩
  exact ok.bk G ρ σ H (Same.refl _) Gr.refl h R
theorem ds_continue : DS X C 0 (.Continue pos) (fun ρ N _ => N.ct ρ) := by
  refine PS.imp ps_continue ?_
  rintro D σ H ⟨G, ρ, N, R, h, ok⟩
  exact ok.ct G ρ σ H (Same.refl _) Gr.refl h R
theorem ds_expr (he : DE X C c1 e fe) (hs : swapsWith e none pos.line X.env = pure false := by rfl) : DS X C c1 (.Expr e pos) (fun ρ N E => fe ρ (fun _ => N.nx ρ) E) := by
  refine PS.imp (ps_expr he hs) ?_
  rintro D σ H ⟨G, ρ, N, R, h, ok⟩
  exact ⟨G, ρ, _, R, h, fun s v G' H' p S V => ok.nx G' ρ σ H' S.sub S.gr p (R.step S)⟩
def retW (s : SV) (P : SV → Prop) : Prop := match s with
  | .own _ _ => False
  | s => P s
theorem ds_ret (he : DE X C c1 e fe) : DS X C c1 (.Return (some e) pos) (fun ρ N E => fe ρ (fun s => retW s N.rt) E) := by
  refine PS.imp (ps_ret he) ?_
  rintro D σ H ⟨G, ρ, N, R, h, ok⟩
  refine ⟨G, ρ, _, R, h, fun s v G' H' q S V => ?_⟩
  have go : N.rt s → (∀ k x, s ≠ .own k x) → D.rt v H' := fun q n => ok.rt s v G' H' q (R.ent.trans S.toStep) S.gr (V.low R.ent) n
  match s, q, go with
  | .d k x, q, go => exact go q fun _ _ => SV.noConfusion
  | .fr k x, q, go => exact go q fun _ _ => SV.noConfusion
  | .st, q, go => exact go q fun _ _ => SV.noConfusion
  | .exc n, q, go => exact go q fun _ _ => SV.noConfusion
  | .scr n, q, go => exact go q fun _ _ => SV.noConfusion
/-- return of a name: what it owns is given away -/
def giveW (s : SV) (P : SV → Prop) : Prop := match s with
  | .own k x => P (.fr k x)
  | s => P s
theorem ds_retV (i : Nat) (hN : X.N[i]? = some x := by rfl) (hv : Vis X.env.scope x := by first | exact Or.inl rfl | exact Or.inr (Or.inl rfl) | exact Or.inr (Or.inr rfl)) (hd : (x == ("__debug__" : Str)) = false := by decide)
    (hcd : (x == ("__classdict__" : Str)) = false := by decide) : DS X C 0 (.Return (some (.Name x p)) pos) (fun ρ N _ => getE ρ i fun s => giveW s N.rt) := by
  refine PS.imp (ps_ret (pe_var hN hv hd hcd)) ?_
  rintro D σ H ⟨G, ρ, N, R, h, ok⟩
  obtain ⟨s, e, q⟩ := getE_some h
  obtain ⟨o, hs, _⟩ := R.slots
  obtain ⟨v, e1, sl⟩ := hs i s e
  refine ⟨v, e1, ?_⟩
  match s, q, sl with
  | .own k x, q, ⟨z, n, g, h0, w⟩ => exact ok.rt (.fr k x) v G H q R.ent Gr.refl ⟨⟨_, z, n, g, w⟩, fun _ _ _ p' e' => by rw [z] at e'; cases e'; exact h0⟩ fun _ _ => SV.noConfusion
  | .d k x, q, sl => exact ok.rt _ v G H q R.ent Gr.refl ⟨sl, fun _ _ e => nomatch e⟩ fun _ _ => SV.noConfusion
  | .st, q, sl => exact ok.rt _ v G H q R.ent Gr.refl ⟨sl, fun _ _ e => nomatch e⟩ fun _ _ => SV.noConfusion
  | .exc n, q, sl => exact ok.rt _ v G H q R.ent Gr.refl ⟨sl, fun _ _ e => nomatch e⟩ fun _ _ => SV.noConfusion
  | .scr n, q, sl => exact ok.rt _ v G H q R.ent Gr.refl ⟨sl, fun _ _ e => nomatch e⟩ fun _ _ => SV.noConfusion
theorem ds_retN : DS X C 0 (.Return none pos) (fun _ N _ => N.rt (.d false .none)) := by
  refine PS.imp ps_retN ?_
  rintro D σ H ⟨G, ρ, N, R, h, ok⟩
  exact ok.rt _ .non G H h R.ent Gr.refl (.d .non) fun _ _ => SV.noConfusion
theorem ds_if (hc : DT X C c1 c fc) (ha : DSs X C c2 sa f) (hb : DSs X C c3 sb g) : DS X C (c1 + (c2 + c3)) (.If c sa sb pos) (fun ρ N E => fc ρ (fun b => if b = true then f ρ N E else g ρ N E) E) := by
  refine PS.imp (ps_if hc ha hb) ?_
  rintro D σ H ⟨G, ρ, N, R, h, ok⟩
  refine ⟨G, ρ, _, R.l, h, fun b G' H' q S => ?_⟩
  cases b with
  | true => rw [if_pos rfl] at q ⊢; exact ⟨G', ρ, N, (R.next S).l, q, (ok.up S).le (Nat.le_add_right _ _)⟩
  | false => exact ⟨G', ρ, N, (R.next S).le (Nat.le_add_left _ _), q, (ok.up S).le (Nat.le_add_left _ _)⟩
/-- a name's value, or a new thing that the name owns -/
def setW (i : Nat) (s : SV) (ρ : Env) (N : Env → Prop) : Prop := match s with
  | .fr k x => N (ρ.set i (some (.own k x)))
  | .own _ _ => False
  | s => N (ρ.set i (some s))
theorem setW_is {G H G' H' : Hp} {ρ : Env} {σ : L2.St} {s : SV} {v : V} {N : Env → Prop} (R : Rel C G ρ σ H) (S : Step C.toBs G H G' H') (V : IsR C.toBs H G' H' v s) (h : setW i s ρ N) : ∃ ρ', N ρ' ∧ Rel C G' ρ' (σ.set i (some v)) H' := by
  match s, V, h with
  | .fr k x, V, h => exact ⟨_, h, R.setOwn S V⟩
  | .d k x, V, h => exact ⟨_, h, (R.step S).set V.1 (fun _ _ => SV.noConfusion) fun _ _ => SV.noConfusion⟩
  | .st, V, h => exact ⟨_, h, (R.step S).set V.1 (fun _ _ => SV.noConfusion) fun _ _ => SV.noConfusion⟩
  | .exc n, V, h => exact ⟨_, h, (R.step S).set V.1 (fun _ _ => SV.noConfusion) fun _ _ => SV.noConfusion⟩
  | .scr n, V, h => exact ⟨_, h, (R.step S).set V.1 (fun _ _ => SV.noConfusion) fun _ _ => SV.noConfusion⟩
theorem ds_set (i : Nat) (hN : X.N.Nodup) (he : DE X C c1 e fe) (hi : X.N[i]? = some x := by rfl) (hx : Loc X.env.scope x := by first | exact Or.inl rfl | exact Or.inr rfl) (hs : swapsWith e (some (.Name x pos')) pos.line X.env = pure false := by rfl)
    (hf : X.fn x = true ∨ X.env.scope.names.lookup x = some .local := by first | exact .inl rfl | exact .inr rfl) : DS X C c1 (.Assign [.Name x pos'] e pos) (fun ρ N E => fe ρ (fun s => setW i s ρ N.nx) E) := by
  refine PS.imp (ps_set hN hi hx he hs hf) ?_
  rintro D σ H ⟨G, ρ, N, R, h, ok⟩
  refine ⟨G, ρ, _, R, h, fun s v G' H' q S V => ?_⟩
  obtain ⟨ρ', n, R'⟩ := setW_is R.toRel S.toStep V q
  exact ok.nx G' ρ' _ H' S.sub S.gr n R'
/-! targets -/
abbrev WG := SV → Env → (Env → Prop) → Prop
/-- vs: the slots that may be stored -/
def GSem (C : Cn) (vs : List Nat) (g : WG) (t : TG) : Prop := ∀ (G : Hp) (ρ : Env) (σ : L2.St) (H : Hp) (s : SV) (v : V) (N : Env → Prop) (Q : L2.St → Hp → Prop), Rel C G ρ σ H → IsV C.toBs G H v s → (∀ k x, s ≠ .own k x) → (∀ k x, s ≠ .fr k x) →
  g s ρ N → (∀ ρ' σ', N ρ' → Rel C G ρ' σ' H → wipe σ' vs = wipe σ vs → Q σ' H) → t v σ H Q
def DG (X : Cx) (C : Cn) (vs : List Nat) (tg : Expr) (g : WG) (t : TG) : Prop := PG X tg t ∧ GSem C vs g t
def GsSem (C : Cn) (vs : List Nat) (n : Nat) (g : Bool → List D → Env → (Env → Prop) → Prop) (t : TGs) : Prop := ∀ (G : Hp) (ρ : Env) (σ : L2.St) (H : Hp) (k : Bool) (ds : List D) (ws : List V) (N : Env → Prop) (Q : L2.St → Hp → Prop), Rel C G ρ σ H → IsL C.K k G ws ds →
  ds.length = n → g k ds ρ N → (∀ ρ' σ', N ρ' → Rel C G ρ' σ' H → wipe σ' vs = wipe σ vs → Q σ' H) → t ws σ H Q
def DGs (X : Cx) (C : Cn) (vs : List Nat) (n : Nat) (tgs : List Expr) (g : Bool → List D → Env → (Env → Prop) → Prop) (t : TGs) : Prop := PGs X tgs t ∧ GsSem C vs n g t
theorem wipe_set {σ : L2.St} {v : Option V} : ∀ {vs : List Nat}, i ∈ vs → wipe (σ.set i v) vs = wipe σ vs
  | [], h => by cases h
  | a :: r, h => by
    show (wipe (σ.set i v) r).set a none = (wipe σ r).set a none
    by_cases hr : i ∈ r
    · rw [wipe_set hr]
    · have ha : i = a := by
        rcases List.mem_cons.mp h with e | e
        · exact e
        · exact absurd e hr
      subst ha
      have step : ∀ (l : List Nat) (τ : L2.St), i ∉ l → wipe (τ.set i v) l = (wipe τ l).set i v := by
        intro l
        induction l with
        | nil => intro τ _; rfl
        | cons b l ih =>
          intro τ hn
          show (wipe (τ.set i v) l).set b none = ((wipe τ l).set b none).set i v
          rw [ih τ fun z => hn (List.mem_cons_of_mem _ z), List.set_comm _ _ (fun e => hn (by rw [e]; exact List.mem_cons_self))]
      rw [step r σ hr, List.set_set]
theorem dg_name {vs : List Nat} (i : Nat) (hN : X.N.Nodup) (hm : i ∈ vs := by decide) (hi : X.N[i]? = some x := by rfl) (hx : Loc X.env.scope x := by first | exact Or.inl rfl | exact Or.inr rfl)
    (hf : X.fn x = true ∨ X.env.scope.names.lookup x = some .local := by first | exact .inl rfl | exact .inr rfl) : DG X C vs (.Name x p) (fun s ρ N => N (ρ.set i (some s))) (gName i) := by
  refine ⟨pg_name hN hi hx hf, ?_⟩
  intro G ρ σ H s v N Q R V n1 n2 h k
  exact k _ _ h (R.set V n1 n2) (wipe_set hm)
theorem dgs_nil {vs : List Nat} : DGs X C vs 0 [] (fun _ _ ρ N => N ρ) gNil := by
  refine ⟨pgs_nil, ?_⟩
  intro G ρ σ H k ds ws N Q R V hl h kt
  have e := V.length
  rw [hl] at e
  exact ⟨List.length_eq_zero_iff.mp e, kt ρ σ h R rfl⟩
def consG (g : WG) (gs : Bool → List D → Env → (Env → Prop) → Prop) (k : Bool) (ds : List D) (ρ : Env) (N : Env → Prop) : Prop := match ds with
  | d :: r => g (.d k d) ρ fun ρ' => gs k r ρ' N
  | [] => False
theorem dgs_cons {vs : List Nat} {n : Nat} {tg : Expr} {tgs : List Expr} {g : WG} {gs : Bool → List D → Env → (Env → Prop) → Prop} {t : TG} {ts : TGs} (h1 : DG X C vs tg g t) (h2 : DGs X C vs n tgs gs ts)
    (hs : (assignEach (tg :: tgs) X.env).map (·.2) = assign tg X.env :: (assignEach tgs X.env).map (·.2) := by rfl) : DGs X C vs (n + 1) (tg :: tgs) (consG g gs) (gCons t ts) := by
  obtain ⟨p1, q1⟩ := h1
  obtain ⟨p2, q2⟩ := h2
  refine ⟨pgs_cons p1 p2 hs, ?_⟩
  intro G ρ σ H k ds ws N Q R V hl h kt
  cases V with
  | nil => cases hl
  | cons a b =>
    refine ⟨_, _, rfl, ?_⟩
    refine q1 G ρ σ H (.d k _) _ _ _ R a (fun _ _ => SV.noConfusion) (fun _ _ => SV.noConfusion) h fun ρ' σ' m R' e1 => ?_
    exact q2 G ρ' σ' H k _ _ N Q R' b (Nat.succ.inj hl) m fun ρ2 σ2 m2 R2 e2 => kt ρ2 σ2 m2 R2 (e2.trans e1)
theorem dg_tup {vs : List Nat} {n : Nat} {tgs : List Expr} {kk : Nat} {gs : Bool → List D → Env → (Env → Prop) → Prop} {t : TGs} (xc : XC X C) (h : DGs X C vs n tgs gs t) (hl : tgs.length = n) (hp : PGs X tgs t → PG X (.Tuple tgs kk p) (gTup X.K tgs.length t)) :
    DG X C vs (.Tuple tgs kk p) (fun s ρ N => match tv s with | some ds => ds.length = n ∧ gs (flg s) ds ρ N | none => False) (gTup C.K n t) := by
  obtain ⟨p1, q1⟩ := h
  refine ⟨by rw [← xc.K, ← hl]; exact hp p1, ?_⟩
  intro G ρ σ H s v N Q R V n1 n2 h kt
  split at h
  · rename_i ds e1
    obtain ⟨p1, vs, rfl, h1, i1, _, z1⟩ := tv_is e1 R.ok V
    refine ⟨p1, vs, rfl, h1, ?_, ?_⟩
    · rw [i1.length, h.1]
    · exact q1 G ρ σ H _ ds vs N Q R i1 h.1 h.2 kt
  · exact h.elim
theorem ds_asg {tg : Expr} {g : WG} {vs : List Nat} {t : TG} (he : DE X C c1 e fe) (hg : DG X C vs tg g t) (hs : swapsWithSole [tg] e pos.line X.env = pure false := by rfl) (hw : swappedStores [tg] e X.env = pure none := by rfl) (h1 : (assignEach [tg] X.env).map (·.2) = [assign tg X.env] := by rfl) : DS X C c1 (.Assign [tg] e pos) (fun ρ N E => fe ρ (fun s => keepW s fun t => g t ρ N.nx) E) := by
  obtain ⟨p1, q1⟩ := hg
  refine PS.imp (ps_asg he p1 hs hw h1) ?_
  rintro D σ H ⟨G, ρ, N, R, h, ok⟩
  refine ⟨G, ρ, _, R, h, fun s v G' H' q S V => ?_⟩
  obtain ⟨G2, t', S2, V2, n1, n2, q2⟩ := keep_is S V q
  exact q1 G2 ρ σ H' t' v _ _ (R.step S2) V2 n2 n1 q2 fun ρ' σ' n R' _ => ok.nx G2 ρ' σ' H' S2.sub S2.gr n R'
/-- a, b = e1, e2, no tuple made -/
theorem ds_par {x y : Str} {k1 k2 : Nat} {p1 p2 p3 p4 : Pos} {ea eb : Expr} {fa fb : W1} (ha : DE X C c1 ea fa) (hb : DE X C c2 eb fb) (i j : Nat) (hij : i ≠ j := by decide)
    (hp : PS X (.Assign [.Tuple [.Name x p1, .Name y p2] k1 p3] (.Tuple [ea, eb] k2 p4) pos) (tPar i j (tCons (TD C c1 fa) (tCons (TD C c2 fb) tNil)))) :
    DS X C (c1 + c2) (.Assign [.Tuple [.Name x p1, .Name y p2] k1 p3] (.Tuple [ea, eb] k2 p4) pos) (fun ρ N E => fa ρ (fun s => fb ρ (fun t => setW i s ρ fun ρ' => setW j t ρ' N.nx) E) E) := by
  refine PS.imp hp ?_
  rintro D σ H ⟨G, ρ, N, R, h, ok⟩
  refine ⟨G, ρ, _, R.l, h, fun s v G1 H1 q S V => ⟨G1, ρ, _, R.next S, q, fun t w G2 H2 q2 S2 V2 => ⟨v, w, rfl, ?_⟩⟩⟩
  obtain ⟨ρ', n, R'⟩ := setW_is (N := fun ρ' => setW j t ρ' N.nx) R.toRel S.toStep V q2
  obtain ⟨ρ2, n2, R2⟩ := setW_is R' S2.toStep V2 n
  exact ok.nx G2 ρ2 _ H2 (S.sub.trans S2.sub) (S.gr.trans S.ok S2.gr) n2 R2
/-! freezing -/
def frzE : Env → Nat → Env
  | [], _ => []
  | some (.own k x) :: r, 0 => some (.d k x) :: r
  | s :: r, 0 => s :: r
  | s :: r, n + 1 => s :: frzE r n
theorem frzE_is : ∀ (ρ : Env) (i : Nat), frzE ρ i = ρ ∨ ∃ k x, ρ[i]? = some (some (.own k x)) ∧ frzE ρ i = ρ.set i (some (.d k x))
  | [], _ => .inl rfl
  | none :: r, 0 => .inl rfl
  | some (.own k x) :: r, 0 => .inr ⟨k, x, rfl, rfl⟩
  | some (.d k x) :: r, 0 => .inl rfl
  | some (.fr k x) :: r, 0 => .inl rfl
  | some .st :: r, 0 => .inl rfl
  | some (.exc n) :: r, 0 => .inl rfl
  | some (.scr n) :: r, 0 => .inl rfl
  | s :: r, n + 1 => by
    have e0 : frzE (s :: r) (n + 1) = s :: frzE r n := by cases s with
      | none => rfl
      | some t => cases t <;> rfl
    rw [e0]
    rcases frzE_is r n with e | ⟨k, x, e, q⟩
    · exact .inl (by rw [e])
    · exact .inr ⟨k, x, by simpa using e, by rw [q]; rfl⟩
theorem frzE_rel {G H : Hp} {ρ : Env} {σ : L2.St} (R : Rel C G ρ σ H) (i : Nat) : ∃ G', Rel C G' (frzE ρ i) σ H ∧ Same G G' := by
  rcases frzE_is ρ i with e | ⟨k, x, e, q⟩
  · rw [e]; exact ⟨G, R, Same.refl _⟩
  · rw [q]; exact R.freeze e
theorem ds_frz (i : Nat) (h : DS X C c1 st f) : DS X C c1 st (fun ρ N E => f (frzE ρ i) N E) := by
  refine PS.imp h ?_
  rintro D σ H ⟨G, ρ, N, R, h, ok⟩
  obtain ⟨G', R', s⟩ := frzE_rel R.toRel i
  exact ⟨G', _, N, R.at R', h, ok.frz s⟩
/-! own lists changed -/
theorem own_get {G H : Hp} {ρ : Env} {σ : L2.St} {k : Bool} {d : D} (R : Rel C G ρ σ H) (e : ρ[i]? = some (some (.own k d))) : ∃ q, σ[i]? = some (some (.ref q)) ∧ Own C.K k G H q d := by
  obtain ⟨o, hs, _⟩ := R.slots
  obtain ⟨v, e1, z, _, _, _, w⟩ := hs i _ e
  exact ⟨_, by rw [e1, z], w⟩
def ownL (s : SV) (P : Bool → List D → Prop) : Prop := match s with
  | .own k (.list xs) => P k xs
  | _ => False
theorem ownL_is {s : SV} {P : Bool → List D → Prop} (h : ownL s P) : ∃ k xs, s = .own k (.list xs) ∧ P k xs := by
  match s, h with
  | .own k (.list xs), h => exact ⟨k, xs, rfl, h⟩
def datW (s : SV) (P : Bool → D → Prop) : Prop := match s with
  | .d k x => P k x
  | _ => False
theorem datW_is {s : SV} {P : Bool → D → Prop} (h : datW s P) : ∃ k x, s = .d k x ∧ P k x := by
  match s, h with
  | .d k x, h => exact ⟨k, x, rfl, h⟩
theorem own_gr {G H : Hp} {ρ : Env} {σ : L2.St} {k : Bool} {d : D} {i : Nat} {q : Addr} {u : HO} (R : Rel C G ρ σ H) (e : ρ[i]? = some (some (.own k d))) (hv : σ[i]? = some (some (.ref q))) : Gr C.toBs 0 H (upd H q u) := by
  obtain ⟨o, hs, _⟩ := R.slots
  obtain ⟨v, e1, z, nh, _⟩ := hs i _ e
  rw [hv] at e1; cases e1
  injection z with z
  subst z
  exact Gr.same fun x hx => by rw [upd_ne fun y => nh (by rw [← y]; exact hx)]
theorem ds_append {ap cp : Pos} (i : Nat) (he : DE X C c1 e fe) (hN : X.N[i]? = some x := by rfl) (hv : Vis X.env.scope x := by first | exact Or.inl rfl | exact Or.inr (Or.inl rfl) | exact Or.inr (Or.inr rfl)) (hd : (x == ("__debug__" : Str)) = false := by decide)
    (hcd : (x == ("__classdict__" : Str)) = false := by decide) (hb : ∀ {r : V → List V → Hp → VK → Prop}, MtR X "list.append" r → PE X (.Call (.Attribute (.Name x p) "append" ap) [e] [] cp) (tBM X.K "list" r (tVar i) (tCons (TD C c1 fe) tNil)))
    (hs : swapsWith (.Call (.Attribute (.Name x p) "append" ap) [e] [] cp) none pos.line X.env = pure false := by rfl) :
    DS X C c1 (.Expr (.Call (.Attribute (.Name x p) "append" ap) [e] [] cp) pos) (fun ρ N E => getE ρ i fun s => ownL s fun k xs => fe ρ (fun v => keepW v fun t => datW t fun k' y => xs.length < sizeLine ∧ N.nx (ρ.set i (some (.own (k || k') (.list (xs ++ [y])))))) E) := by
  refine PS.imp (ps_expr (hb mt_append) hs) ?_
  rintro D σ H ⟨G, ρ, N, R, h, ok⟩
  obtain ⟨s, es, q⟩ := getE_some h
  obtain ⟨k, xs, rfl, q⟩ := ownL_is q
  obtain ⟨a, ea, vs, w, hl, il⟩ := own_get R.toRel es
  refine ⟨_, ea, .inl ⟨rfl, vs, SqL.of w⟩, G, ρ, _, R, q, fun s v G' H' q S V => ?_⟩
  obtain ⟨G2, t, S2, V2, n1, n2, q2⟩ := keep_is S V q
  obtain ⟨k', y, rfl, hlt, n⟩ := datW_is q2
  have R2 := R.toRel.step S2.toStep
  obtain ⟨a2, ea2, vs2, w2, hl2, il2⟩ := own_get R2 es
  rw [ea] at ea2; cases ea2
  have hlt' : vs2.length < sizeLine := by rw [il2.length]; exact hlt
  refine ⟨a, vs2, v, rfl, rfl, w2, hlt', ?_⟩
  refine ok.nx G2 _ σ _ S2.sub (S2.gr.trans S2.ok (own_gr R2 es ea)) n (R2.write es ea ⟨vs2 ++ [v], upd_same, by rw [List.length_append]; exact hlt', ?_⟩)
  exact (il2.k or_l).append (.cons (Is.k or_r V2) .nil)
/-- y = x.pop() -/
theorem ds_pop {ap cp : Pos} {y : Str} (i j : Nat) (hNd : X.N.Nodup) (hN : X.N[i]? = some x := by rfl) (hj : X.N[j]? = some y := by rfl) (hx : Loc X.env.scope y := by first | exact Or.inl rfl | exact Or.inr rfl)
    (hb : ∀ {r : V → List V → Hp → VK → Prop}, MtR X "list.pop" r → PE X (.Call (.Attribute (.Name x p) "pop" ap) [] [] cp) (tBM0 X.K "list" r (tVar i)))
    (hs : swapsWith (.Call (.Attribute (.Name x p) "pop" ap) [] [] cp) (some (.Name y pos')) pos.line X.env = pure false := by rfl) (hf : X.fn y = true ∨ X.env.scope.names.lookup y = some .local := by first | exact .inl rfl | exact .inr rfl) :
    DS X C 0 (.Assign [.Name y pos'] (.Call (.Attribute (.Name x p) "pop" ap) [] [] cp) pos) (fun ρ N E => getE ρ i fun s => ownL s fun k xs => ∃ z, xs[xs.length - 1]? = some z ∧ N.nx ((ρ.set i (some (.own k (.list xs.dropLast)))).set j (some (.d k z)))) := by
  refine PS.imp (ps_set hNd hj hx (hb mt_pop) hs hf) ?_
  rintro D σ H ⟨G, ρ, N, R, h, ok⟩
  obtain ⟨s, es, q⟩ := getE_some h
  obtain ⟨k, xs, rfl, z, ez, n⟩ := ownL_is q
  obtain ⟨a, ea, vs, w, hl, il⟩ := own_get R.toRel es
  obtain ⟨u, eu, iu⟩ := il.get ez
  refine ⟨_, ea, .inl ⟨rfl, vs, SqL.of w⟩, a, vs, u, rfl, rfl, w, by rw [il.length]; exact eu, ?_⟩
  have R2 := R.write (u := .lst vs.dropLast) (y := .list xs.dropLast) (k2 := k) es ea ⟨vs.dropLast, upd_same, by rw [List.length_dropLast]; omega, by
    rw [List.dropLast_eq_take, List.dropLast_eq_take, il.length]; exact il.take _⟩
  exact ok.nx G _ _ _ (Same.refl _) (own_gr R.toRel es ea) n (R2.set (s := .d k z) iu (fun _ _ => SV.noConfusion) fun _ _ => SV.noConfusion)
end
end DL
set_option Elab.async false
set_option linter.all false
set_option maxRecDepth 100000
set_option maxHeartbeats 1000000
namespace DL
open PySem PySem.Spec PyProof.Rows L2
/-! ## what is walked -/
/-- J gives the values ss, one after another, wherever the world has grown to -/
structure ItOk (C : Cn) (G : Hp) (ss : List SV) (J : It) : Prop where
  len : ss.length ≤ sizeLine
  keep : ∀ s ∈ ss, (∀ k x, s ≠ .own k x) ∧ ∀ k x, s ≠ .fr k x
  go : ∀ G' H i, Same G G' → WOk C.toBs G' H → i < ss.length → J.go i H
  yld : ∀ G' H i x H' s, Same G G' → WOk C.toBs G' H → ss[i]? = some s → J.yld i H x H' → ∃ G2, StepN C.toBs 0 G' H G2 H' ∧ IsV C.toBs G2 H' x s
  stop : ∀ G' H, Same G G' → WOk C.toBs G' H → J.stop ss.length H
def TDI (C : Cn) (c : Nat) (f : WA) : TI := fun σ H R => ∃ G ρ P, RelN C c G ρ σ H ∧ f ρ P C.ex ∧ ∀ ss G' H' J, P ss → StepN C.toBs c G H G' H' → ItOk C G' ss J → R J H'
def DI (X : Cx) (C : Cn) (c : Nat) (tg iter : Expr) (f : WA) : Prop := ∃ w, PI X tg iter w ∧ ∀ σ H R, TDI C c f σ H R → w σ H R
section
variable {X : Cx} {C : Cn} {tg e : Expr} {fe : W1} {pos p : Pos} {c1 c2 : Nat}
/-- the frozen list's or tuple's items -/
def itemsL (s : SV) (P : List SV → Prop) : Prop := match s with
  | .d k (.list xs) => P (xs.map (.d k))
  | _ => False
def itemsT (s : SV) (P : List SV → Prop) : Prop := match s with
  | .d k (.tuple xs) => P (xs.map (.d k))
  | _ => False
theorem itList {G : Hp} {a : Addr} {vs : List V} {ds : List D} {k : Bool} (K : PySem.W.Frag) (h : G a = some (.lst vs)) (hl : vs.length ≤ sizeLine) (i : IsL C.K k G vs ds) : ItOk C G (ds.map (.d k)) (Itl K a) where
  len := by rw [List.length_map, ← i.length]; exact hl
  keep := fun s hs => by
    obtain ⟨d, _, rfl⟩ := List.mem_map.mp hs
    exact ⟨fun _ _ => SV.noConfusion, fun _ _ => SV.noConfusion⟩
  go := fun G' H j sm w hj => by
    rw [List.length_map] at hj
    obtain ⟨u, e, _⟩ := i.get (List.getElem?_eq_getElem hj)
    exact ⟨vs, u, SqL.of (w.sub _ _ (sm _ _ h)), e⟩
  yld := fun G' H j x H' s sm w hs y => by
    obtain ⟨rfl, y⟩ := y
    have e := y vs (SqL.of (w.sub _ _ (sm _ _ h)))
    obtain ⟨d, ed, id⟩ := i.get' e
    rw [List.getElem?_map, ed] at hs
    cases hs
    exact ⟨G', StepN.refl w, Is.mono sm id⟩
  stop := fun G' H sm w => ⟨vs, SqL.of (w.sub _ _ (sm _ _ h)), by rw [List.length_map, i.length]; exact Nat.le_refl _⟩
theorem itTup {G : Hp} {a : Addr} {vs : List V} {ds : List D} {k : Bool} (K : PySem.W.Frag) (h : ∀ G' H, Same G G' → WOk C.toBs G' H → SqT K H a vs) (hl : vs.length ≤ sizeLine) (i : IsL C.K k G vs ds) : ItOk C G (ds.map (.d k)) (Itt K a) where
  len := by rw [List.length_map, ← i.length]; exact hl
  keep := fun s hs => by
    obtain ⟨d, _, rfl⟩ := List.mem_map.mp hs
    exact ⟨fun _ _ => SV.noConfusion, fun _ _ => SV.noConfusion⟩
  go := fun G' H j sm w hj => by
    rw [List.length_map] at hj
    obtain ⟨u, e, _⟩ := i.get (List.getElem?_eq_getElem hj)
    exact ⟨vs, u, h G' H sm w, e⟩
  yld := fun G' H j x H' s sm w hs y => by
    obtain ⟨rfl, y⟩ := y
    have e := y vs (h G' H' sm w)
    obtain ⟨d, ed, id⟩ := i.get' e
    rw [List.getElem?_map, ed] at hs
    cases hs
    exact ⟨G', StepN.refl w, Is.mono sm id⟩
  stop := fun G' H sm w => ⟨vs, h G' H sm w, by rw [List.length_map, i.length]; exact Nat.le_refl _⟩
theorem itRange {G : Hp} (lo : Int) (n : Nat) (hn : n ≤ sizeLine) : ItOk C G ((List.range n).map fun i => .d false (.int (lo + (i : Nat)))) (Itr lo n) where
  len := by rw [List.length_map, List.length_range]; exact hn
  keep := fun s hs => by
    obtain ⟨d, _, rfl⟩ := List.mem_map.mp hs
    exact ⟨fun _ _ => SV.noConfusion, fun _ _ => SV.noConfusion⟩
  go := fun G' H j sm w hj => by
    rw [List.length_map, List.length_range] at hj
    exact hj
  yld := fun G' H j x H' s sm w hs y => by
    obtain ⟨rfl, rfl⟩ := y
    rw [List.getElem?_map] at hs
    by_cases hj : j < n
    · rw [List.getElem?_range hj] at hs
      cases hs
      exact ⟨G', StepN.refl w, .int _⟩
    · rw [List.getElem?_eq_none (by rw [List.length_range]; omega)] at hs
      cases hs
  stop := fun G' H sm w => by
    show n ≤ _
    rw [List.length_map, List.length_range]
    exact Nat.le_refl _
theorem di_list (xc : XC X C) (he : DE X C c1 e fe) : DI X C c1 tg e (fun ρ P E => fe ρ (fun s => keepW s fun t => itemsL t P) E) := by
  refine ⟨_, pi_list he, ?_⟩
  rintro σ H R ⟨G, ρ, P, Rl, hf, k⟩
  refine ⟨G, ρ, _, Rl, hf, fun s v G' H' q S V => ?_⟩
  obtain ⟨G2, t, S2, V2, n1, n2, q2⟩ := keep_is S V q
  unfold itemsL at q2
  split at q2
  · cases V2 with
    | lst h1 hl i1 =>
      refine ⟨_, rfl, ⟨_, SqL.of (S2.ok.sub _ _ h1)⟩, k _ G2 H' _ q2 S2 ?_⟩
      exact itList _ h1 hl i1
  · exact q2.elim
theorem di_tup (xc : XC X C) (he : DE X C c1 e fe) : DI X C c1 tg e (fun ρ P E => fe ρ (fun s => keepW s fun t => itemsT t P) E) := by
  refine ⟨_, pi_tup he, ?_⟩
  rintro σ H R ⟨G, ρ, P, Rl, hf, k⟩
  refine ⟨G, ρ, _, Rl, hf, fun s v G' H' q S V => ?_⟩
  obtain ⟨G2, t, S2, V2, n1, n2, q2⟩ := keep_is S V q
  unfold itemsT at q2
  split at q2
  · cases V2 with
    | tup e1 hl i1 =>
      exact ⟨_, rfl, ⟨_, SqT.of (S2.ok.sub _ _ e1)⟩, k _ G2 H' _ q2 S2 (itTup _ (fun G3 H3 sm w => SqT.of (w.sub _ _ (sm _ _ e1))) hl i1)⟩
    | tupK _ e1 hl i1 =>
      rw [xc.K]
      have e2 : ∀ H3, Same G2 H3 → SqT C.K H3 _ _ := fun H3 sm => SqT.same sm e1
      exact ⟨_, rfl, ⟨_, e2 _ S2.ok.sub⟩, k _ G2 H' _ q2 S2 (itTup _ (fun G3 H3 sm w => e2 _ fun x u q => w.sub _ _ (sm _ _ q)) hl i1)⟩
  · exact q2.elim
theorem di_or {f g : WA} (hf : DI X C c1 tg e f) (hg : DI X C c1 tg e g) : DI X C c1 tg e (fun ρ P E => f ρ P E ∨ g ρ P E) := by
  obtain ⟨w1, p1, q1⟩ := hf
  obtain ⟨w2, p2, q2⟩ := hg
  refine ⟨fun σ H R => w1 σ H R ∨ w2 σ H R, ⟨fun pins s σ H R I h => ?_⟩, ?_⟩
  · rcases h with h | h
    · exact p1.run pins s σ H R I h
    · exact p2.run pins s σ H R I h
  · rintro σ H R ⟨G, ρ, P, Rl, h, k⟩
    rcases h with h | h
    · exact .inl (q1 σ H R ⟨G, ρ, P, Rl, h, k⟩)
    · exact .inr (q2 σ H R ⟨G, ρ, P, Rl, h, k⟩)
/-- range(a) -/
def rng1 (s : SV) (P : List SV → Prop) : Prop := match s with
  | .d _ (.int n) => -(2 ^ 62) ≤ n ∧ n ≤ 10000000 ∧ P ((List.range n.toNat).map fun i => .d false (.int (0 + (i : Nat))))
  | _ => False
theorem de_one_arg (he : DE X C c1 e fe) (hs : starEach [e] X.env = (false, eval e X.env) :: starEach [] X.env := by rfl) : PA X [e] (tCons (TD C c1 fe) tNil) := pa_cons he pa_nil hs
theorem di_rng1 (xc : XC X C) (hm : X.mg "range" = none) (he : DE X C c1 e fe) (hg : Gl X "range" := by rfl) (hs : starEach [e] X.env = [(false, eval e X.env)] := by rfl) (hs2 : starEach [e] X.env = (false, eval e X.env) :: starEach [] X.env := by rfl) :
    DI X C c1 tg (.Call (.Name "range" p) [e] [] pos) (fun ρ P E => fe ρ (fun s => rng1 s P) E) := by
  refine ⟨_, pi_range1 hg hm (de_one_arg he hs2) hs, ?_⟩
  rintro σ H R ⟨G, ρ, P, Rl, hf, k⟩
  refine ⟨G, ρ, _, Rl, hf, fun s v G' H' q S V => ?_⟩
  unfold rng1 at q
  split at q
  · rename_i kk n
    obtain ⟨V, _⟩ := V
    cases V
    obtain ⟨hb, hn, q⟩ := q
    refine ⟨_, rfl, hb, by omega, k _ G' H' _ q S (itRange 0 _ ?_)⟩
    rw [sizeLine_eq]; omega
  · exact q.elim
def rng2 (s t : SV) (P : List SV → Prop) : Prop := match s, t with
  | .d _ (.int a), .d _ (.int b) => -(2 ^ 62) ≤ a ∧ a < 2 ^ 62 ∧ -(2 ^ 62) ≤ b ∧ b < 2 ^ 62 ∧ b - a ≤ 10000000 ∧ P ((List.range (b - a).toNat).map fun i => .d false (.int (a + (i : Nat))))
  | _, _ => False
variable {e2 : Expr} {fe2 : W1}
theorem di_rng2 (xc : XC X C) (hm : X.mg "range" = none) (he : DE X C c1 e fe) (he2 : DE X C c2 e2 fe2) (hg : Gl X "range" := by rfl) (hs : starEach [e, e2] X.env = [(false, eval e X.env), (false, eval e2 X.env)] := by rfl) (hs2 : starEach [e2] X.env = [(false, eval e2 X.env)] := by rfl)
    (hs3 : starEach [e, e2] X.env = (false, eval e X.env) :: starEach [e2] X.env := by rfl) (hs4 : starEach [e2] X.env = (false, eval e2 X.env) :: starEach [] X.env := by rfl) :
    DI X C (c1 + c2) tg (.Call (.Name "range" p) [e, e2] [] pos) (fun ρ P E => fe ρ (fun s => fe2 ρ (fun t => rng2 s t P) E) E) := by
  refine ⟨_, pi_range2 hg hm (pa_cons he (pa_cons he2 pa_nil hs4) hs3) hs hs2, ?_⟩
  rintro σ H R ⟨G, ρ, P, Rl, hf, k⟩
  refine ⟨G, ρ, _, Rl.l, hf, fun s v G' H' q S V => ⟨G', ρ, _, Rl.next S, q, fun t w G2 H2 q2 S2 V2 => ?_⟩⟩
  unfold rng2 at q2
  split at q2
  · obtain ⟨V, _⟩ := V
    obtain ⟨V2, _⟩ := V2
    cases V; cases V2
    obtain ⟨h1, h2, h3, h4, h5, q3⟩ := q2
    refine ⟨_, _, rfl, ⟨h1, h2, h3, h4⟩, k _ G2 H2 _ q3 (S.trans S2) (itRange _ _ ?_)⟩
    rw [sizeLine_eq]; omega
  · exact q2.elim
end
/-! ## loops -/
section
variable {X : Cx} {C : Cn} {pos p : Pos} {tg iter c : Expr} {body : List Stmt} {fi : WA} {fb : WS} {fc : WB} {g : WG} {vs : List Nat} {t : TG}
def forW (g : WG) (fb : WS) : List SV → Env → En → (Str → Prop) → Prop
  | [], ρ, N, _ => N.nx ρ
  | s :: r, ρ, N, E => g s ρ fun ρ' => fb ρ' { nx := fun ρ2 => forW g fb r ρ2 N E, rt := N.rt, bk := N.nx, ct := fun ρ2 => forW g fb r ρ2 N E } E
theorem ds_for {c1 c2 : Nat} (xc : XC X C) (hi : DI X C c1 tg iter fi) (hg : DG X C vs tg g t) (hb : DSs X C c2 body fb) (hs : ∀ x, foldedSetIterable iter X.env x = pure x := by intro _; rfl) : DS X C (c1 + 16777216 * c2) (.For tg iter body [] pos) (fun ρ N E => fi ρ (fun ss => forW g fb ss ρ N E) E) := by
  obtain ⟨w, p1, q1⟩ := hi
  obtain ⟨p2, q2⟩ := hg
  refine PS.imp (ps_for xc.pown xc.calm p1 p2 hb hs) ?_
  rintro D σ H ⟨G, ρ, N, R, h, ok⟩
  refine q1 σ H _ ⟨G, ρ, _, R.l, h, fun ss G1 H1 J hf S it => ?_⟩
  have Rn := R.next S
  have ok1 := ok.up S
  have len := it.len
  rw [sizeLine_eq] at len
  refine ⟨fun i m σ' H' => m + i = ss.length ∧ ∃ G' ρ', Same G1 G' ∧ Gr C.toBs (i * c2) H1 H' ∧ Rel C G' ρ' σ' H' ∧ forW g fb (ss.drop i) ρ' N C.ex, ⟨ss.length, by omega, G1, ρ, Same.refl _, by rw [Nat.zero_mul]; exact Gr.refl, Rn.toRel, by rw [List.drop_zero]; exact hf⟩, ?_⟩
  rintro i m σ' H' ⟨hm, G', ρ', sm, gr, R', hf'⟩
  have all : i * c2 ≤ 16777216 * c2 := Nat.mul_le_mul_right _ (by omega)
  by_cases hi : i < ss.length
  · refine .inr ⟨it.go G' H' i sm R'.ok hi, fun σ2 H2 => ∃ G2 ρ2, Same G1 G2 ∧ Gr C.toBs ((i + 1) * c2) H1 H2 ∧ Rel C G2 ρ2 σ2 H2 ∧ forW g fb (ss.drop (i + 1)) ρ2 N C.ex, ?_, ?_⟩
    · rintro σ2 H2 ⟨G2, ρ2, sm2, gr2, R2, hf2⟩
      exact ⟨m - 1, by omega, by omega, G2, ρ2, sm2, gr2, R2, hf2⟩
    · intro x H2 y
      obtain ⟨G2, S2, V2⟩ := it.yld G' H' i x H2 _ sm R'.ok (List.getElem?_eq_getElem hi) y
      obtain ⟨n1, n2⟩ := it.keep _ (List.getElem_mem hi)
      rw [List.drop_eq_getElem_cons hi] at hf'
      have g2 : Gr C.toBs (i * c2) H1 H2 := gr.trans R'.ok S2.gr
      have up : i * c2 + c2 ≤ 16777216 * c2 := by
        have := Nat.mul_le_mul_right c2 (show i + 1 ≤ 16777216 by omega)
        rw [Nat.succ_mul] at this
        exact this
      refine q2 G2 ρ' σ' H2 _ x _ _ (R'.step S2.toStep) V2 n1 n2 hf' fun ρ3 σ3 h3 R3 _ => ?_
      have gone : ∀ H4, Gr C.toBs c2 H2 H4 → Gr C.toBs ((i + 1) * c2) H1 H4 := fun H4 g4 => by
        rw [Nat.succ_mul]
        exact g2.trans S2.ok g4
      have gall : ∀ H4, Gr C.toBs c2 H2 H4 → Gr C.toBs (16777216 * c2) H1 H4 := fun H4 g4 => (g2.trans S2.ok g4).le up
      refine ⟨G2, ρ3, _, (Rn.le up).go g2 R3, h3, ⟨fun G4 ρ4 σ4 H4 sm4 g4 h4 R4 => ⟨G4, ρ4, (sm.trans S2.sub).trans sm4, gone H4 g4, R4, h4⟩, fun s v G4 H4 q e4 g4 => ok1.rt s v G4 H4 q e4 (gall H4 g4), fun G4 ρ4 σ4 H4 sm4 g4 h4 R4 => ?_, fun G4 ρ4 σ4 H4 sm4 g4 h4 R4 => ⟨G4, ρ4, (sm.trans S2.sub).trans sm4, gone H4 g4, R4, h4⟩⟩⟩
      exact ok1.nx G4 ρ4 σ4 H4 ((sm.trans S2.sub).trans sm4) (gall H4 g4) h4 R4
  · have he : i = ss.length := by omega
    subst he
    rw [List.drop_length] at hf'
    exact .inl ⟨it.stop G' H' sm R'.ok, ok1.nx G' ρ' σ' H' sm (gr.le all) hf' R'⟩
def whileN (fc : WB) (fb : WS) : Nat → Env → En → (Str → Prop) → Prop
  | 0, _, _, _ => False
  | n + 1, ρ, N, E => fc ρ (fun t => if t = true then fb ρ { nx := fun ρ2 => whileN fc fb n ρ2 N E, rt := N.rt, bk := N.nx, ct := fun ρ2 => whileN fc fb n ρ2 N E } E else N.nx ρ) E
theorem ds_while {c1 c2 : Nat} (xc : XC X C) (hc : DT X C c1 c fc) (hb : DSs X C c2 body fb) : DS X C (16777216 * (c1 + c2)) (.While c body [] pos) (fun ρ N E => ∃ n, n ≤ 16777216 ∧ whileN fc fb n ρ N E) := by
  refine PS.imp (ps_while xc.pown hc hb) ?_
  rintro D σ H ⟨G, ρ, N, R, ⟨n, hn, h⟩, ok⟩
  refine ⟨fun m σ' H' => m ≤ n ∧ ∃ G' ρ', Same G G' ∧ Gr C.toBs ((n - m) * (c1 + c2)) H H' ∧ Rel C G' ρ' σ' H' ∧ whileN fc fb m ρ' N C.ex, ⟨n, Nat.le_refl _, G, ρ, Same.refl _, by rw [Nat.sub_self, Nat.zero_mul]; exact Gr.refl, R.toRel, h⟩, ?_⟩
  rintro m σ' H' ⟨hm, G', ρ', sm, gr, R', h'⟩
  match m, hm, gr, h' with
  | m + 1, hm, gr, h' =>
    have up : (n - (m + 1)) * (c1 + c2) + (c1 + c2) ≤ 16777216 * (c1 + c2) := by
      have := Nat.mul_le_mul_right (c1 + c2) (show (n - (m + 1)) + 1 ≤ 16777216 by omega)
      rw [Nat.succ_mul] at this
      exact this
    have Rm := (R.le up).go gr R'
    have okm : EnOk C (c1 + c2) G' H' N D := (ok.le up).upG sm gr R.ok R'.ok
    refine ⟨G', ρ', _, Rm.l, h', fun b G2 H2 q S => ?_⟩
    have R2 := Rm.next S
    have ok2 := okm.up S
    cases b with
    | false => exact ok2.nx G2 ρ' σ' H2 (Same.refl _) (Gr.refl.le (Nat.zero_le _)) q R2.toRel
    | true =>
      rw [if_pos rfl] at q
      show if true = true then _ else _
      rw [if_pos rfl]
      have key : ∀ H4, Gr C.toBs c2 H2 H4 → Gr C.toBs ((n - m) * (c1 + c2)) H H4 := fun H4 g4 => by
        have e : (n - m) * (c1 + c2) = (n - (m + 1)) * (c1 + c2) + (c1 + c2) := by
          rw [show n - m = (n - (m + 1)) + 1 by omega, Nat.succ_mul]
        rw [e]
        exact gr.trans R'.ok (S.gr.trans S.ok g4)
      refine ⟨fun σ3 H3 => m ≤ n ∧ ∃ G3 ρ3, Same G G3 ∧ Gr C.toBs ((n - m) * (c1 + c2)) H H3 ∧ Rel C G3 ρ3 σ3 H3 ∧ whileN fc fb m ρ3 N C.ex, fun σ3 H3 h3 => ⟨m, Nat.lt_succ_self m, h3⟩, G2, ρ', _, R2, q, ?_⟩
      exact ⟨fun G4 ρ4 σ4 H4 sm4 g4 h4 R4 => ⟨by omega, G4, ρ4, (sm.trans S.sub).trans sm4, key H4 g4, R4, h4⟩, ok2.rt, fun G4 ρ4 σ4 H4 sm4 g4 h4 R4 => ok2.nx G4 ρ4 σ4 H4 sm4 g4 h4 R4, fun G4 ρ4 σ4 H4 sm4 g4 h4 R4 => ⟨by omega, G4, ρ4, (sm.trans S.sub).trans sm4, key H4 g4, R4, h4⟩⟩
end
end DL
set_option Elab.async false
set_option linter.all false
set_option maxRecDepth 100000
set_option maxHeartbeats 1000000
namespace DL
open PySem PySem.Spec PyProof.Rows L2
/-! ## comprehensions -/
def Cn.quiet (C : Cn) : Cn := { C with ex := fun _ => False, E := fun _ _ _ => False }
theorem XC.blk {X : Cx} {C : Cn} (xc : XC X C) {s : Shared} {H : Hp} {scope : Scope} {cenv : PySem.Env} {fp : List Addr} : XC (X.blk s H scope cenv fp) C.quiet where
  K := xc.K
  mg := xc.mg
  calm := xc.calm
  room := xc.room
  guards := xc.guards
  pass := fun pins σ H s e s' I c => by
    obtain ⟨_, _, _, _, _, _, _, _, _, _, _, _, z⟩ := c
    exact z
  takes := takes0
  pown := PassesOwn.never
  link := fun n c G' H' z => z.elim
section
variable {X : Cx} {C : Cn} {G H : Hp} {ρ : Env} {σ : L2.St}
theorem Rel.quiet (R : Rel C G ρ σ H) : Rel C.quiet G ρ σ H := ⟨R.ent, R.len, R.slots⟩
theorem RelN.quiet {n : Nat} (R : RelN C n G ρ σ H) : RelN C.quiet n G ρ σ H := ⟨R.toRel.quiet, R.used, R.cap⟩
theorem Rel.loud (R : Rel C.quiet G ρ σ H) : Rel C G ρ σ H := ⟨R.ent, R.len, R.slots⟩
def wipeE (ρ : Env) : List Nat → Env
  | [] => ρ
  | v :: vs => (wipeE ρ vs).set v none
theorem Rel.wiped (R : Rel C G ρ σ H) : ∀ vs : List Nat, Rel C G (wipeE ρ vs) (wipe σ vs) H
  | [] => R
  | v :: vs => (Rel.wiped R vs).forget
theorem wipe_wipe {vs : List Nat} : ∀ l : List Nat, (∀ v ∈ l, v ∈ vs) → wipe (wipe σ l) vs = wipe σ vs
  | [], _ => rfl
  | v :: l, h => by
    show wipe ((wipe σ l).set v none) vs = _
    rw [wipe_set (h v List.mem_cons_self)]
    exact wipe_wipe l fun w hw => h w (List.mem_cons_of_mem _ hw)
def compW (g : WG) (ft : WB) (fe : W1) : List SV → Env → Bool → List D → (SV → Prop) → Prop
  | [], _, k, acc, P => P (.fr k (.list acc))
  | s :: r, ρ, k, acc, P => g s ρ fun ρ' => ft ρ' (fun b => if b = true then fe ρ' (fun v => keepW v fun t => datW t fun k' y => compW g ft fe r ρ (k || k') (acc ++ [y]) P) (fun _ => False) else compW g ft fe r ρ k acc P) (fun _ => False)
def DTs (X : Cx) (C : Cn) (c : Nat) (ifs : List Expr) (f : WB) : Prop := PTs X ifs (TDT C c f)
theorem dts_nil : DTs X C 0 [] (fun _ P _ => P true) := ⟨fun pins s σ H Q I h => by
  obtain ⟨G, ρ, P, R, hf, k⟩ := h
  exact pts_nil.run pins s σ H Q I (k true G H hf (StepN.refl R.ok))⟩
theorem dts_one {c1 : Nat} {c : Expr} {f : WB} (h : DT X C c1 c f) : DTs X C c1 [c] f := pts_one h
/-- the list that a comprehension makes, so far -/
structure Lc (C : Cn) (G1 H1 : Hp) (D : Addr) (G H : Hp) (k : Bool) (acc : List V) (ds : List DL.D) : Prop where
  st : Step C.toBs G1 H1 G H
  gd : G D = none
  hd : H D = some (.lst acc)
  il : IsL C.K k G acc ds
variable {G1 H1 G' H' : Hp} {D : Addr} {k k' : Bool} {acc : List V} {ds : List DL.D} {v : V} {y : DL.D}
theorem Lc.step (L : Lc C G1 H1 D G H k acc ds) (n : H1 D = none) (S : Step C.toBs G H G' H') : Lc C G1 H1 D G' H' k acc ds where
  st := L.st.trans S
  gd := by
    cases z : G' D with
    | none => rfl
    | some u =>
      rcases S.new D (by rw [z]; exact Option.some_ne_none _) with y | y
      · exact absurd L.gd y
      · exact (nw_not y L.hd rfl).elim
  hd := S.keep D _ L.hd (L.st.ok0.notHid (fr0_none n)) (fun ps => HO.noConfusion)
  il := L.il.mono S.sub
theorem Lc.push (L : Lc C G1 H1 D G H k acc ds) (n : H1 D = none) (i : Is C.K k' G v y) : Lc C G1 H1 D G (upd H D (.lst (acc ++ [v]))) (k || k') (acc ++ [v]) (ds ++ [y]) where
  st := L.st.write (fr0_none n) L.hd rfl (L.st.ok0.notHid (fr0_none n)) L.gd
  gd := L.gd
  hd := upd_same
  il := (L.il.k or_l).append (.cons (Is.k or_r i) .nil)
variable {elt tg iter : Expr} {ifs : List Expr} {scope : Scope} {own : List (Str × Nat)} {pos : Pos} {fi : WA} {g : WG} {t : TG} {ft : WB} {fe : W1}
theorem td_lc {c1 c2 c3 : Nat} {wi : TI} (q1 : ∀ σ H R, TDI C c1 fi σ H R → wi σ H R) (q2 : GSem C.quiet (own.map (·.2)) g t) : ∀ σ H Q, TD C (c1 + 16777216 * (c2 + c3)) (fun ρ P E => fi ρ (fun ss => compW g ft fe ss (wipeE ρ (own.map (·.2))) false [] P) E) σ H Q → tLc wi t (TDT C.quiet c2 ft) (TD C.quiet c3 fe) (own.map (·.2)) σ H Q := by
  rintro σ H Q ⟨G, ρ, P, R, hf, kt⟩
  refine q1 σ H _ ⟨G, ρ, _, R.l, hf, fun ss G1 H1 J hc S it => fun D n => ?_⟩
  have R1 := (R.toRel.step S.toStep).wiped (own.map (·.2))
  have Rn := R.next S
  have sa := StepN.alloc (o := HO.lst []) S.ok n
  have len := it.len
  rw [sizeLine_eq] at len
  refine ⟨fun i m H2 => m + i = ss.length ∧ Gr C.toBs (i * (c2 + c3)) H1 H2 ∧ ∃ G2 k acc ds, Lc C G1 H1 D G2 H2 k acc ds ∧ acc.length ≤ i ∧ compW g ft fe (ss.drop i) (wipeE ρ (own.map (·.2))) k ds P, ⟨ss.length, by omega, by rw [Nat.zero_mul]; exact sa.gr, G1, false, [], [], ⟨sa.toStep, S.ok.noG n, upd_same, .nil⟩, Nat.le_refl _, by rw [List.drop_zero]; exact hc⟩, ?_⟩
  rintro i m H2 ⟨hm, gr, G2, k, acc, ds, L, hl, hc⟩
  by_cases hi : i < ss.length
  · have up : i * (c2 + c3) + (c2 + c3) ≤ 16777216 * (c2 + c3) := by
      have := Nat.mul_le_mul_right (c2 + c3) (show i + 1 ≤ 16777216 by omega)
      rw [Nat.succ_mul] at this
      exact this
    refine .inr ⟨it.go G2 H2 i L.st.sub L.st.ok hi, fun H3 => Gr C.toBs ((i + 1) * (c2 + c3)) H1 H3 ∧ ∃ G3 k acc ds, Lc C G1 H1 D G3 H3 k acc ds ∧ acc.length ≤ i + 1 ∧ compW g ft fe (ss.drop (i + 1)) (wipeE ρ (own.map (·.2))) k ds P, ?_, ?_⟩
    · rintro H3 ⟨g3, G3, k, acc, ds, L, hl, hc⟩
      exact ⟨m - 1, by omega, by omega, g3, G3, k, acc, ds, L, hl, hc⟩
    · intro x H3 y
      obtain ⟨G3, S3, V3⟩ := it.yld G2 H2 i x H3 _ L.st.sub L.st.ok (List.getElem?_eq_getElem hi) y
      obtain ⟨n1, n2⟩ := it.keep _ (List.getElem_mem hi)
      have L3 := L.step n S3.toStep
      have g3 : Gr C.toBs (i * (c2 + c3)) H1 H3 := gr.trans L.st.ok S3.gr
      rw [List.drop_eq_getElem_cons hi] at hc
      refine q2 G3 _ _ H3 _ x _ _ (R1.step L3.st).quiet V3 n1 n2 hc fun ρ4 σ4 h4 R4 e4 => ?_
      have R5 : RelN C.quiet (c2 + c3) G3 ρ4 σ4 H3 := (Rn.le up).quiet.go g3 R4
      refine ⟨by rw [e4, wipe_wipe _ fun v hv => hv], G3, ρ4, _, R5.l, h4, fun b G5 H5 h5 S5 => ?_⟩
      have L5 := L3.step n S5.toStep
      cases b with
      | false =>
        have e5 : Gr C.toBs ((i + 1) * (c2 + c3)) H1 H5 := by
          rw [Nat.succ_mul]
          exact g3.trans L3.st.ok (S5.gr.le (Nat.le_add_right _ _))
        exact ⟨e5, G5, k, acc, ds, L5, by omega, h5⟩
      | true =>
        rw [if_pos rfl] at h5
        show TD C.quiet c3 fe σ4 H5 _
        refine ⟨G5, ρ4, _, R5.next S5, h5, fun s v G6 H6 h6 S6 V6 => ?_⟩
        obtain ⟨G7, t7, S7, V7, m1, m2, h7⟩ := keep_is S6 V6 h6
        obtain ⟨k', z, rfl, h8⟩ := datW_is h7
        have L7 := L5.step n S7.toStep
        have hlen := it.len
        have e7 : Gr C.toBs ((i + 1) * (c2 + c3)) H1 H6 := by
          rw [Nat.succ_mul]
          exact g3.trans L3.st.ok (S5.gr.trans S5.ok S7.gr)
        have e8 : Gr C.toBs ((i + 1) * (c2 + c3)) H1 (upd H6 D (.lst (acc ++ [v]))) := e7.trans L7.st.ok (Gr.same fun x hx => by rw [upd_ne fun q => S.ok.notHid (fr0_none n) (by rw [← q]; exact hx)])
        exact ⟨acc, L7.hd, by omega, e8, G7, k || k', acc ++ [v], ds ++ [z], L7.push n V7, by rw [List.length_append, List.length_singleton]; omega, h8⟩
  · have he : i = ss.length := by omega
    subst he
    rw [List.drop_length] at hc
    refine .inl ⟨it.stop G2 H2 L.st.sub L.st.ok, ?_⟩
    have hlen := it.len
    have all : ss.length * (c2 + c3) ≤ 16777216 * (c2 + c3) := Nat.mul_le_mul_right _ (by omega)
    refine kt (.fr k (.list ds)) (.ref D) G2 H2 hc (S.trans ⟨L.st, gr.le all⟩) ⟨⟨D, rfl, S.ok.notHid (fr0_none n), L.gd, acc, L.hd, by omega, L.il⟩, fun _ _ _ q e => ?_⟩
    cases e
    exact S.dom (fr0_none n)
theorem de_lc {c1 c2 c3 : Nat} (xc : XC X C) (hN : X.N.Nodup) (hi : DI X C c1 tg iter fi) (ok : BlkOk X.N X.env.scope scope own)
    (hg : ∀ (s : Shared) (H : Hp) (cc : Addr) (cl : List (Str × Addr)) (fp : List Addr), DG (X.blk s H scope (compEnvC scope cl cc X.env) fp) C.quiet (own.map (·.2)) tg g t) (ht : ∀ (s : Shared) (H : Hp) (cc : Addr) (cl : List (Str × Addr)) (fp : List Addr), DTs (X.blk s H scope (compEnvC scope cl cc X.env) fp) C.quiet c2 ifs ft)
    (he : ∀ (s : Shared) (H : Hp) (cc : Addr) (cl : List (Str × Addr)) (fp : List Addr), DE (X.blk s H scope (compEnvC scope cl cc X.env) fp) C.quiet c3 elt fe) (hs : ∀ x, foldedSetIterable iter X.env x = pure x := by intro _; rfl) :
    DE X C (c1 + 16777216 * (c2 + c3)) (.ListComp elt [⟨tg, iter, ifs, 0⟩] scope pos) (fun ρ P E => fi ρ (fun ss => compW g ft fe ss (wipeE ρ (own.map (·.2))) false [] P) E) := by
  obtain ⟨w, p1, q1⟩ := hi
  refine ⟨fun pins s σ H Q I h => ?_⟩
  refine (pe_lc (own := own) xc.calm hN p1 ok (fun s H cc cl fp => (hg s H cc cl fp).1) ht he hs).run pins s σ H Q I (td_lc q1 (hg s H 0 [] []).2 σ H Q h)
/-- name = [..] where the model stores within the block -/
theorem ds_setLc {c1 c2 c3 : Nat} {x : Str} {pos' spos : Pos} (i : Nat) (xc : XC X C) (hN : X.N.Nodup) (hi : DI X C c1 tg iter fi) (ok : BlkOk X.N X.env.scope scope own)
    (hg : ∀ (s : Shared) (H : Hp) (cc : Addr) (cl : List (Str × Addr)) (fp : List Addr), DG (X.blk s H scope (compEnvC scope cl cc X.env) fp) C.quiet (own.map (·.2)) tg g t) (ht : ∀ (s : Shared) (H : Hp) (cc : Addr) (cl : List (Str × Addr)) (fp : List Addr), DTs (X.blk s H scope (compEnvC scope cl cc X.env) fp) C.quiet c2 ifs ft)
    (he : ∀ (s : Shared) (H : Hp) (cc : Addr) (cl : List (Str × Addr)) (fp : List Addr), DE (X.blk s H scope (compEnvC scope cl cc X.env) fp) C.quiet c3 elt fe) (hx : X.N[i]? = some x := by rfl) (hy : X.env.scope.names.lookup x = some .local := by rfl)
    (hsw : swapsWith (.ListComp elt [⟨tg, iter, ifs, 0⟩] scope pos) (some (.Name x pos')) spos.line X.env = pure true := by exact sw_true rfl rfl rfl (by decide +kernel)) (hs : ∀ x, foldedSetIterable iter X.env x = pure x := by intro _; rfl) :
    DS X C (c1 + 16777216 * (c2 + c3)) (.Assign [.Name x pos'] (.ListComp elt [⟨tg, iter, ifs, 0⟩] scope pos) spos) (fun ρ N E => fi ρ (fun ss => compW g ft fe ss (wipeE ρ (own.map (·.2))) false [] fun s => setW i s ρ N.nx) E) := by
  obtain ⟨w, p1, q1⟩ := hi
  refine ⟨fun pins s σ H D I h => ?_⟩
  refine (ps_setLc (own := own) xc.calm hN hx hy hsw p1 ok (fun s H cc cl fp => (hg s H cc cl fp).1) ht he hs).run pins s σ H D I ?_
  obtain ⟨G, ρ, N, R, hf, ok'⟩ := h
  refine td_lc q1 (hg s H 0 [] []).2 σ H _ ⟨G, ρ, _, R, hf, fun s v G' H' q S V => ?_⟩
  obtain ⟨ρ', n, R'⟩ := setW_is R.toRel S.toStep V q
  exact ok'.nx G' ρ' _ H' S.sub S.gr n R'
end
/-! ## a def by its body -/
theorem slots_start {C : Cn} {G H : Hp} {ss : List SV} {vs : List V} (iv : IsVs C.toBs G H vs ss) (w : WOk C.toBs G H) (e0 : C.G0 = G) (h0 : C.H0 = H) (n : Nat) : Rel C G (ss.map some ++ List.replicate n none) (vs.map some ++ List.replicate n none) H := by
  have main : ∀ {vs : List V} {ss : List SV}, IsVs C.toBs G H vs ss → ∀ (i : Nat) (s : SV), (ss.map some ++ List.replicate n none)[i]? = some (some s) → (∃ v, (vs.map some ++ List.replicate n none)[i]? = some (some v) ∧ IsV C.toBs G H v s) ∧ (∀ k x, s ≠ .own k x) ∧ ∀ k x, s ≠ .fr k x := by
    intro vs ss iv
    induction iv with
    | nil =>
      intro i s e
      simp only [List.map_nil, List.nil_append, List.getElem?_replicate] at e
      split at e <;> cases e
    | cons a n1 n2 _ ih =>
      intro i s e
      match i, e with
      | 0, e =>
        cases e
        exact ⟨⟨_, rfl, a⟩, n2, n1⟩
      | i + 1, e => exact ih i s e
  refine ⟨by rw [e0, h0]; exact Step.refl w, by simp [iv.length], fun _ => 0, fun i s e => ?_, fun i j k k' x y e1 e2 _ => absurd rfl ((main iv i _ e1).2.1 k x)⟩
  obtain ⟨⟨v, e1, q⟩, n1, n2⟩ := main iv i s e
  refine ⟨v, e1, ?_⟩
  cases s with
  | own k x => exact absurd rfl (n1 k x)
  | fr k x => exact absurd rfl (n2 k x)
  | d k x => exact q
  | st => exact q
  | exc m => exact q
  | scr m => exact q
theorem dfun {P : Program} {w : World} {K : PySem.W.Frag} {mg : Str → Option Value} {base : Heap} {T : List (Addr × Str)} {gd : Bool} {k c c0 : Nat} {f : Addr} {x qual : Str} {st : Stmt} {fd : FuncData} {N ps : List Str} {sd : WS} (hcost : c0 ≤ c) (F : Fun K x qual st f fd) (S : FnScope N ps (defScope st)) (hm : mg x = some (.ref f)) (hk : PySem.W.keepIn K (.ref f) = true) (hb : Binds K fd ps [])
    (body : ∀ (cdv : Value) (A : Around) (out : List PySem.Env) (s : Shared) (H : Hp) (E : XK) (C : Cn), XC (cxOf (CX P w) P w K mg base N qual (defScope st) f cdv A out s H E) C → C.gd = gd → C.T = T → Room k (A.deeper (envOfC qual (defScope st) s.heap.objs.size f cdv)) →
      DSs (cxOf (CX P w) P w K mg base N qual (defScope st) f cdv A out s H E) C c0 (defBody st) sd) :
    DFn P w K mg base T gd c (k + 1) x ps (fun ss Q Ex => sd (ss.map some ++ List.replicate (N.length - ps.length) none) { nx := fun _ => Q (.d false .none), rt := Q } Ex) := by
  obtain ⟨oc0, od0, _, _, _, _, _, _, osl0, _, lk0, _⟩ := F.ex
  refine ⟨f, fd, fng_of F S ?_ ?_, hm, hk, hb, oc0, od0, osl0, lk0⟩
  · rintro vs H Q E ⟨B, G, ss, Pp, Ex, _, _, _, _, _, iv, hl, _⟩
    rw [iv.length, hl]
  · intro cdv A out s H vs Q E _ hgu hr h
    obtain ⟨B, G, ss, Pp, Ex, hK, hmg, hT, hcap, ok, iv, hl, hf, kt, ke⟩ := h
    let C : Cn := { toBs := B, gd := gd, G0 := G, H0 := H, lim := c, ex := Ex, E := E }
    have xc : XC (cxOf (CX P w) P w K mg base N qual (defScope st) f cdv A out s H E) C :=
      { K := hK.symm, mg := hmg.symm, calm := rfl, room := ⟨k, hr⟩, guards := hgu, pass := passes_call (takes_of rfl rfl rfl rfl) (fun _ _ _ _ h => h), takes := takes_of rfl rfl rfl rfl, pown := passes_of rfl,
        link := fun n c G' H' q m S => ke n c G' H' q (by rw [← hmg]; exact m) S }
    refine ⟨TDS C c0 sd, body cdv A out s H E C xc rfl hT hr, ?_⟩
    refine ⟨G, _, _, ?_, hf, ?_⟩
    · have hlen : N.length - vs.length = N.length - ps.length := by rw [iv.length, hl]
      unfold L2.start
      rw [hlen]
      exact ⟨slots_start (C := C) iv ok rfl rfl _, ⟨0, Gr.refl, by show 0 + c0 ≤ c; omega⟩, hcap⟩
    · exact ⟨fun G' ρ σ H' _ g q R => kt _ _ G' H' q ⟨R.ent, g.le hcost⟩ (.d .non) fun _ _ => SV.noConfusion, fun s v G' H' q S g V n => kt s v G' H' q ⟨S, g.le hcost⟩ V n, fun _ _ _ _ _ _ q _ => q.elim, fun _ _ _ _ _ _ q _ => q.elim⟩
/-! ## raise -/
/-- an own error class without words of its own -/
def ExT (K : PySem.W.Frag) (mg : Str → Option Value) (n : Str) : Prop := ∃ a : Addr, mg n = some (.ref a) ∧ PySem.W.excIn K a [.type "ValueError", .type "Exception", .type "BaseException", .type "object"] "ValueError.__new__" = true ∧ PySem.W.keepIn K (.ref a) = true ∧
  PySem.W.subIn K (.ref a) (.type "BaseException") = some true ∧ PySem.W.typeIn K (.ref a) = some (.type "type")
theorem ds_raise {X : Cx} {C : Cn} {n z : Str} {j} {p pos pos1 pos2 : Pos} (xc : XC X C) (h : ExT X.K X.mg n) (hg : Gl X n := by rfl) (hdb : (n == ("__debug__" : Str)) = false := by decide) : DS X C 0 (.Raise (some (.Call (.Name n p) [.Constant (.str z) j pos1] [] pos)) none pos2) (fun _ _ E => E n) := by
  obtain ⟨a, g, x, kp, b, t⟩ := h
  refine PS.imp (ps_raise xc.calm xc.takes (pmk_own PySem.F.excBase_ValueError x g kp (raises_own b t) hg hdb)) ?_
  rintro D σ H ⟨G, ρ, N, R, hf, ok⟩
  exact xc.link n (.ref a) G H hf (by rw [← xc.mg]; exact g) R.entN
/-- what the top has left of a def -/
def FT (K : PySem.W.Frag) (mg : Str → Option Value) (x : Str) (st : Stmt) (ps : List Str) : Prop := ∃ (a : Addr) (fd : FuncData), Fun K x x st a fd ∧ mg x = some (.ref a) ∧ PySem.W.keepIn K (.ref a) = true ∧ Binds K fd ps []
theorem dfn {P : Program} {w : World} {K : PySem.W.Frag} {mg : Str → Option Value} {base : Heap} {T : List (Addr × Str)} {gd : Bool} {k c c0 : Nat} {x : Str} {st : Stmt} {N ps : List Str} {sd : WS} {f : FS} (h : FT K mg x st ps) (S : FnScope N ps (defScope st))
    (body : ∀ (a : Addr) (cdv : Value) (A : Around) (out : List PySem.Env) (s : Shared) (H : Hp) (E : XK) (C : Cn), XC (cxOf (CX P w) P w K mg base N x (defScope st) a cdv A out s H E) C → C.gd = gd → C.T = T → Room k (A.deeper (envOfC x (defScope st) s.heap.objs.size a cdv)) →
      DSs (cxOf (CX P w) P w K mg base N x (defScope st) a cdv A out s H E) C c0 (defBody st) sd)
    (hf : ∀ (ss : List SV) (Q : SV → Prop) (E : Str → Prop), ss.length = ps.length → f ss Q E → sd (ss.map some ++ List.replicate (N.length - ps.length) none) { nx := fun _ => Q (.d false .none), rt := Q } E)
    (hcost : c0 ≤ c := by decide) : DFn P w K mg base T gd c (k + 1) x ps f := by
  obtain ⟨a, fd, F, m, kp, b⟩ := h
  exact (dfun hcost F S m kp b fun cdv A out s H E C xc hg hT hr => body a cdv A out s H E C xc hg hT hr).imp fun ss P E hl q => hf ss P E hl q
end DL
set_option Elab.async false
set_option linter.all false
set_option maxRecDepth 100000
set_option maxHeartbeats 4000000
namespace DL
open PySem PySem.Spec PyProof.Rows L2
/-! ## an exception that is caught and kept -/
section
variable {X : Cx} {pins : List (Addr × Obj)} {σ : L2.St} {H : Hp} {s : Shared}
/-- an object that came behind the entry is tracked from now on -/
theorem Inv.track {a : Addr} {oe : Obj} {vs : Array Value} {cls : Value} (I : L2.Inv X pins σ H s) (ha : s.heap.get? a = some oe) (hc : oe.cls = cls) (hdi : oe.dict = none) (hd : oe.data = .fields vs) (na : H a = none) (n0 : X.s_0.heap.get? a = none) (nL : a ≠ X.env.locals) (nF : a ∉ X.fs)
    (np : ∀ p ∈ X.pn ++ pins, p.1 ≠ a) : L2.Inv X pins σ (upd H a (ExcO cls a)) s := by
  have other : ∀ b, H b ≠ none → b ≠ a := fun b hb e => hb (by rw [e]; exact na)
  have old : ∀ b o, X.s_0.heap.get? b = some o → b ≠ a := fun b o e q => by rw [q, n0] at e; cases e
  refine ⟨I.ok, I.os, I.bare, ⟨I.base.keep, I.base.slot, fun b o e n hx => ?_, I.base.there, fun b xs e => ?_, fun b o u e => ?_, fun b ps e => ?_⟩, I.loc, I.cell, ?_, fun x c e => ?_, fun p hp => ?_, ?_, I.len⟩
  · rw [upd_ne (old b o e)]; exact I.base.free b o e n hx
  · have q := I.base.tups b xs e
    rw [upd_ne (other b (by rw [q]; exact Option.some_ne_none _))]; exact q
  · have q := I.base.frzs b o u e
    rw [upd_ne (other b (by rw [q]; exact Option.some_ne_none _))]; exact q
  · obtain ⟨more, q⟩ := I.base.tbls b ps e
    exact ⟨more, by rw [upd_ne (other b (by rw [q]; exact Option.some_ne_none _))]; exact q⟩
  · rw [upd_ne (Ne.symm nL)]; exact I.free
  · rw [upd_ne (fun z => ?_)]
    · exact I.freeC x c e
    · obtain ⟨v, o, ho, q⟩ := I.cell x c e
      rw [z, ha] at ho; cases ho
      rw [hd] at q; cases q
  · obtain ⟨e, n, r⟩ := I.pin p hp
    exact ⟨e, by rw [upd_ne (np p hp)]; exact n, r⟩
  · intro b o e
    by_cases hb : b = a
    · subst hb
      rw [upd_same] at e
      cases e
      exact ⟨⟨oe, vs, ha, hc, hdi, hd⟩, ⟨oe, ha⟩, fun h1 h2 ⟨o, w, q1, q2, q3⟩ k => ⟨o, w, k _ q1, q2, q3⟩⟩
    · rw [upd_ne hb] at e
      refine (I.hok b o e).stay (fun c u _ q => q) (fun c q => ?_) fun c xs q => ?_
      · rw [upd_ne (other c (by rw [q]; exact Option.some_ne_none _))]; exact q
      · rw [upd_ne (other c (by rw [q]; exact Option.some_ne_none _))]; exact q
/-- what is wished of the error: kept at slot i, the clause's own name at j gone -/
def wKeep (K : PySem.W.Frag) (c : Value) (m i j : Nat) (D : Ends) : WX := fun cls d σ H => d = none ∧ PySem.W.exmOne K cls c = some true ∧ ∀ a, H a = none → σ.length = m → D.nx ((σ.set i (some (.ref a))).set j none) (upd H a (ExcO cls a))
variable {x m n : Str} {c : Value} {i j : Nat} {body : List Stmt} {np pos pos' pe pf pa : Pos} {tb : WX → TS}
theorem nodup_set {N : List Str} {i j : Nat} {a b : Str} (hN : N.Nodup) (h1 : N[i]? = some a) (h2 : N[j]? = some b) (e : a ≠ b) : i ≠ j := fun z => e (by rw [z, h2] at h1; exact (Option.some.inj h1).symm)
/-- try: body / except x as n: m = n, in a def -/
theorem ps_try_keep (hs : X.stack = X.env :: X.outer) (hf : X.env.frame = some X.env.locals) (hex : X.ex = []) (hN : X.N.Nodup) (hi : X.N[i]? = some m) (hj : X.N[j]? = some n) (hmn : m ≠ n) (hlm : X.env.scope.names.lookup m = some .local) (hln : X.env.scope.names.lookup n = some .local) (hc : Names X x c)
    (hb : ∀ (W : WX) (pn : List (Addr × Obj)) (xe : Value → Shared → Prop), Takes (X.tr pn xe) W → PSs (X.tr pn xe) body (tb W)) (hd1 : (n == ("__debug__" : Str)) = false := by decide) (hd2 : (n == ("__classdict__" : Str)) = false := by decide)
    (hsw : swapsWith (.Name n pe) (some (.Name m pf)) pa.line X.env = pure false := by rfl) :
    PS X (.Try body [.ExceptHandler (some (.Name x np)) (some n) [.Assign [.Name m pf] (.Name n pe) pa] pos'] [] [] pos) (fun D σ H => tb (wKeep X.K c X.N.length i j D) D σ H) := by
  refine ⟨fun pins s σ H D I h => ?_⟩
  have ok := I.ok
  have hfr : X.A.frames = some (X.env :: X.outer) := by rw [ok.frames, hs]
  have hij : i ≠ j := nodup_set hN hi hj hmn
  refine wpAny_Try_except ?_
  have PB := hb (wKeep X.K c X.N.length i j D) (X.pn ++ pins)
    (fun e s₁ => wpAny (model X.prog X.w) X.A (noteFrame e X.env) (fun _ s₂ => wpAny (model X.prog X.w) X.A (setFlight e none) (fun _ s₃ => wpAny (model X.prog X.w) X.A (handleBy e X.env [.ExceptHandler (some (.Name x np)) (some n) [.Assign [.Name m pf] (.Name n pe) pa] pos']) (SP X pins D) X.xe s₃) X.xe s₂) X.xe s₁)
  refine wpAny_mono ((PB ?tk).run [] s σ H D (I.toTry _) h) (fun f s1 hsp => ?fin) (fun e s1 he => he)
  case fin =>
    cases f with
    | next => obtain ⟨σ', H', J', q⟩ := hsp; exact wpAny_execs_nil ⟨σ', H', J'.ofTry ok, q⟩
    | brk => obtain ⟨σ', H', J', q⟩ := hsp; exact ⟨σ', H', J'.ofTry ok, q⟩
    | cont => obtain ⟨σ', H', J', q⟩ := hsp; exact ⟨σ', H', J'.ofTry ok, q⟩
    | ret u => obtain ⟨v, σ', H', J', r, q⟩ := hsp; exact ⟨v, σ', H', J'.ofTry ok, r, q⟩
  case tk =>
    rintro u s' ⟨a, B, sI, pins', σ', H', cls, d, rfl, J', nb, up, sky, na, os, ag, hdn, hcl, hkeep⟩
    have J : L2.Inv X pins σ' H' sI := J'.ofTry ok
    have sky2 : Sky B (X.env :: X.outer) a (Zc cls d) X.env.locals s'.heap := by rw [← hs]; exact sky
    show wpAny (model X.prog X.w) X.A (noteFrame (.ref a) X.env) _ _ _
    refine Sky.land Zc.steady hfr hf sky2 fun h3 fl3 up3 => ?_
    have J3 : L2.Inv X pins σ' H' { s' with heap := h3 } := J.landed nb fl3.1 (up.trans up3) os ag
    obtain ⟨oe3, vs3, he3, hz3, hd3⟩ := fl3.there
    have nfr : a ∉ frs (X.env :: X.outer) := fun hm => by
      obtain ⟨_, o', e', hnf⟩ := fl3.2.2.1.mem hm
      rw [he3] at e'; cases e'
      exact hnf _ hd3
    have nL : a ≠ X.env.locals := fun z => nfr (List.mem_filterMap.mpr ⟨X.env, List.mem_cons_self, by rw [hf, z]⟩)
    have nF : a ∉ X.fs := fun hm => by
      obtain ⟨e, he, q⟩ := List.mem_filterMap.mp hm
      exact nfr (List.mem_filterMap.mpr ⟨e, List.mem_cons_of_mem _ he, q⟩)
    have sIa : sI.heap.get? a = none := by
      cases q : sI.heap.get? a with
      | none => rfl
      | some o =>
        have z := nb a o q (by rw [hs]; exact nfr)
        rw [fl3.2.1] at z; cases z
    have n0 : X.s_0.heap.get? a = none := by
      cases q : X.s_0.heap.get? a with
      | none => rfl
      | some o =>
        obtain ⟨o', z⟩ := J.base.there a o q (by rw [hex]; simp)
        rw [sIa] at z; cases z
    have npn : ∀ p ∈ X.pn ++ pins, p.1 ≠ a := fun p hp z => by
      have q := (J.pin p hp).1
      rw [z, sIa] at q; cases q
    have S3 := J3.suite he3 hd3 na nL nF
    refine wpAny_handleBy_cons (codeAny_handlers_test ?_) (by intro q; cases q)
    have LT : PySem.W.Looks (model X.prog X.w) h3 (typeOf (.ref a)) cls := fun A Q E s k q => wpAny_typeOf_ref (k _ _ he3) (by rw [hz3.1]; exact q)
    have LM := PySem.W.exm_one (M := model X.prog X.w) (J3.kIn) LT hcl
    have test : ∀ {Q : Value → Shared → Prop} {E : Value → Shared → Prop}, Q c { s' with heap := h3 } → wpAny (model X.prog X.w) (X.A.mark (some (.ref a))) (eval (.Name x np) X.env) Q E { s' with heap := h3 } := fun {Q E} q => by
      obtain ⟨hg, hdbg, hm | ⟨hm, hv, hnn⟩⟩ := hc
      · exact ld_glob (X := X.suite a ((a, oe3) :: (X.pn ++ pins))) S3 hg hm q hdbg
      · exact ld_blt (X := X.suite a ((a, oe3) :: (X.pn ++ pins))) S3 hg hm hv q hnn hdbg
    refine test (LM.here ?_)
    refine codeAny_handlers_suite_as ?_
    refine HandSPX.lands_againZ fl3 fun h4 fl4 up4 => ?_
    have J4 : L2.Inv X pins σ' H' { s' with heap := h4 } := J.landed nb fl4.1 ((up.trans up3).trans up4) os ag
    obtain ⟨oe4, vs4, he4, hz4, hd4⟩ := fl4.there
    have S4 := J4.suite he4 hd4 na nL nF
    refine store_ok (X := X.suite a ((a, oe4) :: (X.pn ++ pins))) (v := .ref a) S4 hN hj (.inl hln) rfl (fun s5 S5 => ?_) (.inr hln)
    have jl : j < σ'.length := by rw [J.len]; exact (List.getElem?_eq_some_iff.mp hj).1
    have suite : PSs (X.suite a ((a, oe4) :: (X.pn ++ pins))) [.Assign [.Name m pf] (.Name n pe) pa] (tAsg (tVar j) (gName i)) :=
      pss_one (ps_asg (pe_var (X := X.suite a ((a, oe4) :: (X.pn ++ pins))) hj (.inl hln) hd1 hd2) (pg_name (X := X.suite a ((a, oe4) :: (X.pn ++ pins))) hN hi (.inl hlm) (.inr hlm)) (by first | exact hsw | rfl) (by rfl))
    refine wpAny_mono (suite.run [] s5 _ H' { nx := fun σ6 H6 => σ6 = (σ'.set j (some (.ref a))).set i (some (.ref a)) ∧ H6 = H', rt := fun _ _ => False } S5 ⟨.ref a, by rw [List.getElem?_set_self jl], rfl, rfl⟩) (fun f s6 hsp => ?_) (fun _ _ z => False.elim z)
    cases f with
    | next =>
      obtain ⟨σ6, H6, S6, e6, e7⟩ := hsp
      subst e6; subst e7
      have ap := (S6.pin (a, oe4) (List.mem_append_left _ List.mem_cons_self)).1
      refine gone_ok (Inv.track (S6.unsuite ok) ap hz4.1 (hz4.2.trans hdn) hd4 na n0 nL nF npn) hN hj hln fun s7 J7 => ?_
      refine ⟨_, _, J7, ?_⟩
      have e : ((σ'.set j (some (.ref a))).set i (some (V.ref a))).set j none = (σ'.set i (some (.ref a))).set j none := by
        rw [List.set_comm _ _ (Ne.symm hij), List.set_set]
      rw [e]
      exact hkeep a na J.len
    | brk => obtain ⟨_, _, _, z⟩ := hsp; exact z.elim
    | cont => obtain ⟨_, _, _, z⟩ := hsp; exact z.elim
    | ret u => obtain ⟨_, _, _, _, _, z⟩ := hsp; exact z.elim
/-! ### _law_caught(action) -/
/-- what it makes of the lambda's reading -/
def TTc (K : PySem.W.Frag) (CS : Addr) : (XK → Hp → VK → Prop) → Hp → VK → Prop := fun tl H Q =>
  tl (fun cls d H' => d = none ∧ PySem.W.exmOne K cls (.ref CS) = some true ∧ ∀ a, H' a = none → Q (.ref a) (upd H' a (ExcO cls a))) H fun _ H' => Q .non H'
theorem caught_gives {x q : Str} {sg : Scope} {g CS : Addr} {cdg : Value} {j : Nat} {p1 p2 p3 p4 p5 p6 p7 p8 p9 p10 p11 p12 p13 p14 : Pos} (hN : sg.names.lookup ("HallError" : Str) = some .globalImplicit) (hm : X.mg ("HallError" : Str) = some (.ref CS)) (hf : sg.names.lookup ("found" : Str) = some .local) (he : sg.names.lookup ("error" : Str) = some .local) :
    LamX.GivesTo X (["action", "found", "error"] : List Str) x sg g cdg [.Assign [.Name "found" p1] (.Constant .none j p2) p3, .Try [.Expr (.Call (.Name "action" p4) [] [] p5) p6] [.ExceptHandler (some (.Name "HallError" p7)) (some "error") [.Assign [.Name "found" p8] (.Name "error" p9) p10] p11] [] [] p12, .Return (some (.Name "found" p13)) p14] "action" q (TTc X.K CS) := by
  intro f c' s H Q tl act hc h
  have hnd : (["action", "found", "error"] : List Str).Nodup := by decide +kernel
  refine ⟨_, pss_cons (ps_set (i := 1) (X := (cxOf C8.CX0 X.prog X.w X.K X.mg X.base ["action", "found", "error"] x sg g cdg X.A X.stack s H C8.E0).nox) hnd rfl (.inl hf) pe_non (by rfl) (.inr hf))
    (pss_cons (ps_try_keep (X := (cxOf C8.CX0 X.prog X.w X.K X.mg X.base ["action", "found", "error"] x sg g cdg X.A X.stack s H C8.E0).nox) (c := .ref CS) (i := 1) (j := 2)
      (tb := fun W D σ H => ∃ Ech : XK, (∀ cls d σ' H', Ech cls d H' → W cls d σ' H') ∧ σ[0]? = some (some (.ref f)) ∧ H c' = some (LamX.CodeO c' q) ∧ tl Ech H fun _ H1 => D.nx σ H1)
      rfl rfl rfl hnd rfl rfl (by decide) hf he ⟨hN, by decide, .inl hm⟩ (fun W pn xe tk => ⟨fun pins s' σ H' D I h' => ?_⟩))
    (pss_one (ps_ret (pe_var (i := 1) (X := (cxOf C8.CX0 X.prog X.w X.K X.mg X.base ["action", "found", "error"] x sg g cdg X.A X.stack s H C8.E0).nox) rfl (.inl hf))))), ?_⟩
  · obtain ⟨Ech, hW, h1, h2, h3⟩ := h'
    have hp := act W pn xe Ech p4 p5 tk hW
    exact (pss_one (ps_expr hp)).run pins s' σ H' D I ⟨h1, h2, h3⟩
  · refine ⟨_, fun cls d σ' H' k => ?_, rfl, hc, (congrArg (fun R : VK => tl _ H R) (funext fun _ => funext fun H1 => propext ⟨fun z => ⟨.non, rfl, z⟩, fun ⟨v, e, z⟩ => (Option.some.inj (Option.some.inj e)) ▸ z⟩)).mp h⟩
    refine ⟨k.1, k.2.1, fun a na hl => ⟨.ref a, ?_, k.2.2 a na⟩⟩
    have hl : σ'.length = 3 := hl
    match σ', hl with
    | [_, _, _], _ => rfl
end
end DL
set_option Elab.async false
set_option linter.all false
set_option maxRecDepth 100000
set_option maxHeartbeats 1000000
namespace DL
open PySem PySem.Spec PyProof.Rows L2
/-! ## an action handed to the law's own catcher -/
theorem Step.extN {B : Bs} {G H H1 : Hp} (w : WOk B G H) (e : LamX.ExtN H H1) (t : LamX.Tabs B.T H1) : Step B G H G H1 where
  sub := Same.refl _
  ok0 := w
  ok := ⟨fun b u h => e b u (w.sub _ _ h) fun ps z => w.gt b ps (by rw [← z]; exact h), w.hidG, fun a g h => ⟨(w.st a g h).1, by
    obtain ⟨great, cells, rest, turn, c, h1, h2, r⟩ := (w.st a g h).2.ex
    exact ⟨great, cells, rest, turn, c, e _ _ h1 fun _ => HO.noConfusion, e _ _ h2 fun _ => HO.noConfusion, r⟩⟩, t, w.gt⟩
  keep := fun x o h _ n => e x o h n
  new := fun _ h => .inl h
def maskS : Option SV → Option SV
  | some (.own _ _) => none
  | x => x
def maskE (ρ : Env) : Env := ρ.map maskS
theorem Rel.masked {C C' : Cn} {G H : Hp} {ρ : Env} {σ : L2.St} (R : Rel C G ρ σ H) (hb : C'.toBs = C.toBs) (hs : Step C'.toBs C'.G0 C'.H0 G H) : Rel C' G (maskE ρ) σ H := by
  obtain ⟨o, h, inj⟩ := R.slots
  have key : ∀ (i : Nat) (s : SV), (maskE ρ)[i]? = some (some s) → ρ[i]? = some (some s) ∧ ∀ k x, s ≠ .own k x := fun i s e => by
    unfold maskE at e
    rw [List.getElem?_map] at e
    cases q : ρ[i]? with
    | none => rw [q] at e; cases e
    | some t =>
      rw [q] at e
      have e := Option.some.inj e
      cases t with
      | none => cases e
      | some t =>
        cases t with
        | own k x => cases e
        | d k x => cases e; exact ⟨rfl, fun _ _ => SV.noConfusion⟩
        | fr k x => cases e; exact ⟨rfl, fun _ _ => SV.noConfusion⟩
        | st => cases e; exact ⟨rfl, fun _ _ => SV.noConfusion⟩
        | exc n => cases e; exact ⟨rfl, fun _ _ => SV.noConfusion⟩
        | scr n => cases e; exact ⟨rfl, fun _ _ => SV.noConfusion⟩
  refine ⟨hs, by rw [R.len]; exact (List.length_map _).symm, o, fun i s e => ?_, fun i j k k' x y e1 _ => absurd rfl ((key i _ e1).2 k x)⟩
  obtain ⟨e', n⟩ := key i s e
  obtain ⟨v, e1, q⟩ := h i s e'
  refine ⟨v, e1, ?_⟩
  cases s with
  | own k x => exact absurd rfl (n k x)
  | fr k x => exact q.elim
  | d k x =>
    have q : IsV C.toBs G H v (.d k x) := q
    have q' : IsV C'.toBs G H v (.d k x) := by rw [hb]; exact q
    exact q'
  | st =>
    have q : IsV C.toBs G H v .st := q
    have q' : IsV C'.toBs G H v .st := by rw [hb]; exact q
    exact q'
  | exc m =>
    have q : IsV C.toBs G H v (.exc m) := q
    have q' : IsV C'.toBs G H v (.exc m) := by rw [hb]; exact q
    exact q'
  | scr m =>
    have q : IsV C.toBs G H v (.scr m) := q
    have q' : IsV C'.toBs G H v (.scr m) := by rw [hb]; exact q
    exact q'
def lamTE (X : Cx) (B : Bs) (c : Nat) (fb : W1) (E : XK) : TE := fun σ H Q => ∃ C : Cn, C.toBs = B ∧ C.gd = false ∧ C.E = E ∧ (∀ (n : Str) (cl : Value) (G' H' : Hp), C.ex n → C.mg n = some cl → StepN C.toBs C.lim C.G0 C.H0 G' H' → C.E cl none H') ∧ TD C c fb σ H Q
theorem pe_lamB {X : Cx} {B : Bs} {k c : Nat} {A : Around} {outer : List PySem.Env} {s : Shared} {H : Hp} {E : XK} {scope : Scope} {f c' : Addr} {body : Expr} {fb : W1} (hK : X.K = B.K) (hmg : X.mg = B.mg) (hr : Room k (A.deeper (LamX.lamEnv X scope s.heap.objs.size f c')))
    (hb : ∀ C : Cn, C.toBs = B → XC (LamX.lamCx X A outer s H E scope f c') C → DE (LamX.lamCx X A outer s H E scope f c') C c body fb) : PE (LamX.lamCx X A outer s H E scope f c') body (lamTE X B c fb E) := by
  refine ⟨fun pins s1 σ H1 Q I h => ?_⟩
  obtain ⟨C, e1, e2, e3, lk, h⟩ := h
  subst e3
  refine (hb C e1 ⟨hK.trans (by rw [e1]), hmg.trans (by rw [e1]), rfl, ⟨k, hr⟩, fun z => (by rw [e2] at z; cases z), passes_call (takes_of rfl rfl rfl rfl) (fun _ _ _ _ h => h), takes_of rfl rfl rfl rfl, passes_of rfl, lk⟩).run pins s1 σ H1 Q I h
/-- the catcher's def, of whatever place in the text -/
def CaughtDef (st : Stmt) : Prop := ∀ (X : Cx) (x : Str) (g CS : Addr) (cdg : Value) (q : Str), X.mg ("HallError" : Str) = some (.ref CS) → LamX.GivesTo X (["action", "found", "error"] : List Str) x (defScope st) g cdg (defBody st) "action" q (TTc X.K CS)
/-- the errors' class catches these -/
def ErrT (K : PySem.W.Frag) (mg : Str → Option Value) (errs : List Str) : Prop := ∃ CS : Addr, mg ("HallError" : Str) = some (.ref CS) ∧ ∀ n ∈ errs, ∀ c, mg n = some c → PySem.W.exmOne K c (.ref CS) = some true
/-- the caller's own code object and its table -/
def LamTab (X : Cx) (T : List (Addr × Str)) : Prop := ∃ c P : Addr, LamX.TabB X.base X.mg c P ∧ X.env.code = .ref c ∧ (P, X.env.qual ++ "<lambda>") ∈ T ∧ ∀ p ∈ T, p.1 = P → p.2 = X.env.qual ++ "<lambda>"
theorem de_caught {X : Cx} {C : Cn} {st : Stmt} {errs : List Str} {params : Arguments} {body : Expr} {scope : Scope} {fb : W1} {p lpos pos : Pos} {k c1 : Nat} (xc : XC X C) (F : FT X.K X.mg "_law_caught" st ["action"]) (S : FnScope ["action", "found", "error"] ["action"] (defScope st)) (hc : CaughtDef st) (hE : ErrT X.K X.mg errs)
    (hT : LamTab X C.T) (hr : Room (k + 2) X.A)
    (hbody : ∀ (A : Around) (outer : List PySem.Env) (s : Shared) (H : Hp) (E : XK) (f c' : Addr) (C' : Cn), C'.T = C.T → Room k (LamX.lamCx X A outer s H E scope f c').A → XC (LamX.lamCx X A outer s H E scope f c') C' → DE (LamX.lamCx X A outer s H E scope f c') C' c1 body fb)
    (hva : Vis (defScope st) "action" := by first | exact Or.inl rfl | exact Or.inr (Or.inl rfl))
    (hg : Gl X "_law_caught" := by rfl) (L : LamX.LamS X.env.scope scope := by exact LamX.lamS_by (by decide +kernel)) (hdef : defaultsOf params X.env = ([], []) := by rfl)
    (hbind : ∀ (q : Str) (cl : List (Str × Addr)) (pm cv ctv : Value), bindArgs (PySem.W.kla_fn "<lambda>" q params body scope cl pm cv ctv) ⟨[], []⟩ = pure [] := by intros; rfl) :
    DE X C c1 (.Call (.Name "_law_caught" p) [.Lambda params body scope lpos] [] pos) (fun ρ P _ => fb (maskE ρ) (fun _ => P (.d false .none)) (fun n => n ∈ errs ∧ P (.exc n))) := by
  obtain ⟨g, fd, ⟨ex⟩, hm, hk, hb⟩ := F
  obtain ⟨oc, od, kV, doc, pm, an, cdv, ct, osl, efd, lk, hcd⟩ := ex
  subst efd
  obtain ⟨CS, hcs, herr⟩ := hE
  obtain ⟨c, P, TB, hcode, hmT, hu⟩ := hT
  refine PE.imp (LamX.pe_lamcall (a := "action") (Ng := ["action", "found", "error"]) (t := lamTE X C.toBs c1 fb) hg hm hk lk hcd hb S rfl hva (hc X _ g CS cdv _ hcs) TB hcode hmT hu hr L hdef hbind (fun A outer s H E f c' hr' => pe_lamB xc.K xc.mg hr' fun C' e' xc' => hbody A outer s H E f c' C' (congrArg Bs.T e') hr' xc')) ?_
  rintro σ H Q ⟨G, ρ, Pp, R, hf, kt⟩
  refine ⟨R.ok.tab, fun H1 e1 t1 => ?_⟩
  have S1 : StepN C.toBs 0 G H G H1 := ⟨Step.extN R.ok e1 t1, Gr.same fun x hx => (by
    obtain ⟨o, eo, nt⟩ := R.ok.hidH hx
    rw [eo]; exact e1 x o eo nt)⟩
  refine ⟨{ toBs := C.toBs, gd := false, G0 := G, H0 := H1, lim := c1, ex := fun n => n ∈ errs ∧ Pp (.exc n), E := fun cls d H' => d = none ∧ PySem.W.exmOne X.K cls (.ref CS) = some true ∧ ∀ a, H' a = none → Q (.ref a) (upd H' a (ExcO cls a)) }, rfl, rfl, rfl, ?_, ?_⟩
  · rintro n c G' H' ⟨h1, h2⟩ m S2
    refine ⟨rfl, herr n h1 c (by rw [xc.mg]; exact m), fun a na => ?_⟩
    exact kt (.exc n) (.ref a) G' (upd H' a (ExcO c a)) h2 ((S1.trans (S2.trans (StepN.alloc S2.ok na))).le (by show 0 + (c1 + 0) ≤ c1; omega)) ⟨⟨a, c, rfl, m, upd_same⟩, fun _ _ z => nomatch z⟩
  · exact ⟨G, maskE ρ, _, ⟨(R.toRel.step S1.toStep).masked rfl (Step.refl S1.ok), ⟨0, Gr.refl, by show 0 + c1 ≤ c1; omega⟩, (RelN.next (n := 0) (m := c1) (by rw [Nat.zero_add]; exact R) S1).capNow⟩, hf, fun sv v G' H' p S V => kt (.d false .none) .non G' H' p ((S1.trans S).le (by omega)) (.d .non)⟩
/-! ## isinstance of what was caught -/
section
variable {X : Cx}
theorem call_isX : CallR X (.builtin "isinstance") (fun xs H Q => ∃ (a D c : Addr) (b : Bool), xs = [.ref a, .ref c] ∧ H a = some (ExcO (.ref D) a) ∧ ExcC X.K D ∧ PySem.W.kitOne X.K (.ref D) (.ref c) = some b ∧ Q (.bl b) H) := by
  intro pins s σ H xs us Q I r h
  obtain ⟨a, D, c, b, rfl, ha, C, e, q⟩ := h
  obtain ⟨u1, u2, rfl, r1, r2⟩ := vals2 r
  cases (show u1 = Value.ref a from r1)
  cases (show u2 = Value.ref c from r2)
  obtain ⟨⟨oe, vs, h1, h2, h3, h4⟩, _⟩ := I.hok a _ ha
  have J : PySem.W.InstAt s.heap a oe D none := by
    obtain ⟨oc, od, oda, osl⟩ := oe
    dsimp only at h2 h3 h4
    subst h2 h3 h4
    exact ⟨h1, rfl, rfl, trivial⟩
  exact PySem.W.kia_one (PySem.W.handS_kitx_exc C.hg C.hk C.hs C.hd C.ha C.hn C.ht C.hm) I.kIn J e (fun z => nomatch z) fun tk => ⟨.bl b, H, I.kept (t' := tk) fun _ _ z => z, rfl, q⟩
/-- what the top tells of the error classes: whether each is one of the class x -/
def IsET (K : PySem.W.Frag) (mg : Str → Option Value) (x : Str) (tab : List (Str × Bool)) : Prop := ∃ c : Addr, mg x = some (.ref c) ∧ PySem.W.kitOne K (.type "NoneType") (.ref c) = some false ∧ ∀ p ∈ tab, ∃ D, mg p.1 = some (.ref D) ∧ ExcC K D ∧ PySem.W.kitOne K (.ref D) (.ref c) = some p.2
def isEW (tab : List (Str × Bool)) (s : SV) (P : SV → Prop) : Prop := match s with
  | .exc n => ∃ b, (n, b) ∈ tab ∧ P (.d false (.bool b))
  | .d _ .none => P (.d false (.bool false))
  | _ => False
theorem de_isE {C : Cn} {c1 : Nat} {x : Str} {tab : List (Str × Bool)} {a : Expr} {fa : W1} {p1 p2 pos : Pos} (hm : X.mg "isinstance" = none) (hx : IsET X.K X.mg x tab) (ha : DE X C c1 a fa) (xc : XC X C)
    (hg : Gl X "isinstance" := by rfl) (hgT : Gl X x := by rfl) (hdb : (x == ("__debug__" : Str)) = false := by decide)
    (h1 : starEach [a, .Name x p2] X.env = (false, eval a X.env) :: starEach [.Name x p2] X.env := by rfl) (h2 : starEach [.Name x p2] X.env = (false, eval (.Name x p2) X.env) :: starEach [] X.env := by rfl) (hpl : (backTo pos (starEach [.Name x p2] X.env)).any (·.1) = false := by rfl) :
    DE X C c1 (.Call (.Name "isinstance" p1) [a, .Name x p2] [] pos) (fun ρ P E => fa ρ (fun s => isEW tab s P) E) := by
  obtain ⟨c, hc, hn, ht⟩ := hx
  have both : CallR X (.builtin "isinstance") (fun xs H Q => (∃ (a D c : Addr) (b : Bool), xs = [.ref a, .ref c] ∧ H a = some (ExcO (.ref D) a) ∧ ExcC X.K D ∧ PySem.W.kitOne X.K (.ref D) (.ref c) = some b ∧ Q (.bl b) H) ∨ rIsi X.K xs H Q) := by
    intro pins s σ H xs us Q I r h
    rcases h with h | h
    · exact call_isX pins s σ H xs us Q I r h
    · exact call_isi pins s σ H xs us Q I r h
  refine PE.imp (pe_callB both hg hm boot_isinstance (pa_cons ha (pa_cons (pe_glob (v := .ref c) hgT hc rfl hdb) pa_nil h2) h1) (by decide) (by decide) h1 hpl) ?_
  rintro σ H Q ⟨G, ρ, P, R, hf, kt⟩
  refine ⟨G, ρ, _, R, hf, fun s v G' H' q S V => ?_⟩
  unfold isEW at q
  split at q
  · obtain ⟨b, hb, q⟩ := q
    obtain ⟨D, m, eD, k⟩ := ht _ hb
    obtain ⟨⟨a, cc, rfl, m2, e⟩, _⟩ := V
    rw [← xc.mg, m] at m2
    cases m2
    refine .inl ⟨a, D, c, b, rfl, e, eD, k, ?_⟩
    exact kt _ _ G' H' q S (.d (.bl _))
  · obtain ⟨V, _⟩ := V
    cases V
    refine .inr ⟨.non, .ref c, _, _, false, rfl, .own c, .base .non, hn, ?_⟩
    exact kt _ _ G' H' q S (.d (.bl _))
  · exact q.elim
end
end DL
set_option Elab.async false
set_option linter.all false
set_option maxRecDepth 100000
set_option maxHeartbeats 1000000
namespace DL
open PySem PySem.Spec PyProof.Rows L2
section
variable {X : Cx} {C : Cn} {pos p : Pos} {x : Str} {e : Expr} {es : List Expr} {fe : W1}
/-- what is never reached -/
theorem de_never : DE X C 0 e (fun _ _ _ => False) := ⟨fun pins s σ H Q I h => by obtain ⟨_, _, _, _, hf, _⟩ := h; exact hf.elim⟩
/-! ## repr -/
def reprOk (d : D) : Bool := d.canLay0 && d.showable && decide (d.depth ≤ 40)
def reprW : O1 := fun ss P => match ss with
  | [s] => match dat s with
    | some d => reprOk d = true ∧ d.shown.length ≤ sizeLine ∧ P (.d false (.str d.shown))
    | none => False
  | _ => False
theorem dcall_repr (xc : XC X C) (hgd : C.gd = true) : DCall X C (.builtin "repr") reprW := by
  intro pins s σ H vs us Q I rv h
  obtain ⟨G, ss, P, w, iv, h, kt⟩ := h
  unfold reprW at h
  split at h
  · obtain ⟨v, ev, jv⟩ := iv.one
    subst ev
    split at h
    · rename_i d e1
      obtain ⟨hok, hl, p⟩ := h
      unfold reprOk at hok
      rw [Bool.and_eq_true, Bool.and_eq_true, decide_eq_true_eq] at hok
      have di := dat_is e1 w jv
      rw [← xc.K] at di
      cases rv with
      | cons r1 r2 =>
      cases r2
      obtain ⟨as, rd⟩ := Is.reads I d _ _ hok.1.1 di r1
      obtain ⟨kk, rm⟩ := xc.room
      have un := rm.un
      have fin : ∀ t t' h', (∀ b o, s.heap.get? b = some o → h'.get? b = some o) → EP X pins σ Q (Value.str d.shown t) { s with heap := h', toks := t' } := fun t t' h' k => ⟨.str d.shown, H, I.kept (t' := t') k, ⟨t, rfl⟩, rD_ret w kt p (.str _)⟩
      cases rd with
      | none => exact PySem.P.repr_of_none (fin _ _ _ fun _ _ z => z)
      | bool b => refine PySem.P.repr_of_bool ?_; have := fin s.toks (s.toks + 1) s.heap fun _ _ z => z; simpa [PyData.shown] using this
      | int i t => refine PySem.P.repr_of_int (by simpa [PyData.showable] using hok.1.2) ?_; have := fin s.toks (s.toks + 1) s.heap fun _ _ z => z; simpa [PyData.shown] using this
      | str y t => exact PySem.P.repr_of_str (fin _ _ _ fun _ _ z => z) hl
      | list h1 h2 h3 h4 => exact repr_of_reads' (.list h1 h2 h3 h4) hok.1.2 (PyData.noDict_hsm (PyData.hasDict_of_canLay _ hok.1.1)) (xc.guards hgd) (by omega) (fun _ _ z => z) (fun h' u tk k => fin u tk h' k) hl
      | tuple h1 h2 h3 h4 => exact repr_of_reads' (.tuple h1 h2 h3 h4) hok.1.2 (PyData.noDict_hsm (PyData.hasDict_of_canLay _ hok.1.1)) (xc.guards hgd) (by omega) (fun _ _ z => z) (fun h' u tk k => fin u tk h' k) hl
      | dict h1 h2 h3 h4 h5 => simp [PyData.canLay0] at hok
    · exact h.elim
  · exact h.elim
/-! ## bit_length -/
theorem de_bitlen {c1 : Nat} {ap : Pos} (h : DE X C c1 e fe) (hbase : attributeBase e "bit_length" X.env (eval e X.env) = eval e X.env := by rfl) (hline : (ap.endLine == pos.line) = true := by rfl) :
    DE X C c1 (.Call (.Attribute e "bit_length" ap) [] [] pos) (fun ρ P E => fe ρ (fun s => match s with | .d _ (.int i) => P (.d false (.int (Builtin.Int.intBits i : Nat))) | _ => False) E) := by
  refine PE.imp (pe_bits h hbase hline) ?_
  rintro σ H Q ⟨G, ρ, P, R, hf, kt⟩
  refine ⟨G, ρ, _, R, hf, fun s v G' H' q S V => ?_⟩
  split at q
  · obtain ⟨V, _⟩ := V
    cases V
    exact ⟨_, rfl, kt _ _ G' H' q S (.d (.int _))⟩
  · exact q.elim
/-! ## list(range(n)) -/
def lrW (s : SV) (P : SV → Prop) : Prop := match s with
  | .d _ (.int n) => n ≤ 16777216 ∧ -4611686018427387904 ≤ n ∧ P (.fr false (.list ((List.range n.toNat).map fun i => .int (i : Nat))))
  | _ => False
theorem de_lr1 {c1 : Nat} {p2 pos2 : Pos} (xc : XC X C) (hm : X.mg "range" = none) (hl : X.mg "list" = none) (he : DE X C c1 e fe) (hg : Gl X "range" := by rfl) (hg2 : Gl X "list" := by rfl)
    (na : starEach [e] X.env = (false, eval e X.env) :: starEach [] X.env := by rfl) (na2 : starEach [.Call (.Name "range" p2) [e] [] pos2] X.env = (false, eval (.Call (.Name "range" p2) [e] [] pos2) X.env) :: starEach [] X.env := by rfl) :
    DE X C c1 (.Call (.Name "list" p) [.Call (.Name "range" p2) [e] [] pos2] [] pos) (fun ρ P E => fe ρ (fun s => lrW s P) E) := by
  refine PE.imp (pe_listRg xc.calm hg2 hl (prg_1 hg hm he na) na2) ?_
  rintro σ H Q ⟨G, ρ, P, R, hf, kt⟩
  refine ⟨G, ρ, _, R, hf, fun s v G' H' q S V => ?_⟩
  unfold lrW at q
  split at q
  · rename_i n
    obtain ⟨q1, q2, q⟩ := q
    obtain ⟨V, _⟩ := V
    cases V
    refine ⟨n, rfl, ⟨by omega, by omega, by omega, by omega, by omega⟩, ?_⟩
    have e : rgV 0 n = ((List.range n.toNat).map fun i => ((i : Nat) : Int)).map V.int := by
      unfold rgV
      rw [List.map_map, Int.sub_zero]
      exact List.map_congr_left fun i _ => by simp
    rw [e]
    have e2 : ((List.range n.toNat).map fun i => (PyData.int (i : Nat))) = ((List.range n.toNat).map fun i => ((i : Nat) : Int)).map PyData.int := by rw [List.map_map]; rfl
    rw [e2] at q
    intro a na
    exact kt _ _ _ _ q (S.trans (StepN.alloc S.ok na)) ⟨⟨a, rfl, S.ok.notHid (fr0_none na), S.ok.noG na, _, upd_same, by rw [List.length_map, List.length_map, List.length_range, sizeLine_eq]; omega, IsL.ints _⟩, fun _ _ _ q e => by cases e; exact S.dom (fr0_none na)⟩
  · exact q.elim
/-! ## calls by name alone -/
def pick {α : Type} (d : α) (ix : List Nat) (l : List α) : List α := ix.map fun i => l.getD i d
theorem pick_vals {vs : List V} {us : List Value} (r : Vals vs us) : ∀ ix : List Nat, Vals (pick .non ix vs) (pick .none ix us)
  | [] => .nil
  | i :: ix => by
    refine .cons ?_ (pick_vals r ix)
    clear ix
    induction r generalizing i with
    | nil => exact rfl
    | cons a b ih =>
      match i with
      | 0 => exact a
      | i + 1 => exact ih i
theorem pick_is {B : Bs} {G H : Hp} {vs : List V} {ss : List SV} (r : IsVs B G H vs ss) : ∀ ix : List Nat, IsVs B G H (pick .non ix vs) (pick (.d false .none) ix ss)
  | [] => .nil
  | i :: ix => by
    have key : IsV B G H (vs.getD i .non) (ss.getD i (.d false .none)) ∧ (∀ k x, ss.getD i (.d false .none) ≠ .fr k x) ∧ ∀ k x, ss.getD i (.d false .none) ≠ .own k x := by
      clear ix
      induction r generalizing i with
      | nil => exact ⟨.non, fun _ _ => SV.noConfusion, fun _ _ => SV.noConfusion⟩
      | cons a n1 n2 b ih =>
        match i with
        | 0 => exact ⟨a, n1, n2⟩
        | i + 1 => exact ih i
    exact .cons key.1 key.2.1 key.2.2 (pick_is r ix)
def DK (X : Cx) (C : Cn) (c : Nat) (kws : List Keyword) (f : WA) : Prop := PK X kws (TDA C c kws.length f)
theorem dk_nil : DK X C 0 [] (fun _ P _ => P []) := by
  refine ⟨fun po pins s σ H Q I h => pk_nil.run po pins s σ H Q I ?_⟩
  obtain ⟨G, ρ, P, R, hf, k⟩ := h
  exact k [] [] G H hf rfl (StepN.refl R.ok) .nil
theorem dk_cons {c1 c2 : Nat} {nm : Option Str} {kp : Pos} {kws : List Keyword} {f : WA} (he : DE X C c1 e fe) (hr : DK X C c2 kws f) : DK X C (c1 + c2) (⟨nm, e, kp⟩ :: kws) (fun ρ P E => fe ρ (fun s => keepW s fun t => f ρ (fun ss => P (t :: ss)) E) E) := by
  refine ⟨fun po pins s σ H Q I h => (pk_cons he hr).run po pins s σ H Q I ?_⟩
  obtain ⟨G, ρ, P, R, hf, k⟩ := h
  refine ⟨G, ρ, _, R.l, hf, fun s v G' H' p S V => ?_⟩
  obtain ⟨G2, t, S2, V2, n1, n2, p2⟩ := keep_is S V p
  refine ⟨G2, ρ, _, R.next S2, p2, fun ss vs G3 H3 q hl S3 V3 => ?_⟩
  exact k _ _ G3 H3 q (by rw [List.length_cons, List.length_cons, hl]) (S2.trans S3) (.cons (V2.step S3) n1 n2 V3)
/-- how a def binds what is given by name -/
def KwT (st : Stmt) (ks ps : List Str) (ix : List Nat) : Prop := ∀ (x qual : Str) (kV doc pm : Value) (an : Option Addr) (cdv ct : Value) (ws : List Value), ws.length = ks.length →
  bindArgs (PySem.W.fnOf x qual (defArgs st) (defBody st) (defScope st) .none kV doc pm an cdv ct) ⟨[], ks.zip ws⟩ = pure (ps.zip (pick .none ix ws))
theorem de_callK {kws : List Keyword} {st : Stmt} {gd : Bool} {k c c1 : Nat} {f : FS} {fa : WA} {ks ps : List Str} {ix : List Nat} (F : DFn X.prog X.w X.K X.mg X.base C.T gd c k x ps f) (ft : FT X.K X.mg x st ps) (kt : KwT st ks ps ix) (xc : XC X C) (hgd : gd = true → C.gd = true) (hr : Room k X.A) (ha : DK X C c1 kws fa)
    (hg : Gl X x := by rfl) (hi : ix.length = ps.length := by rfl) (hkl : kws.length = ks.length := by rfl) (hdb : (x == ("__debug__" : Str)) = false := by decide)
    (hall : (backToKw pos (keywordEach kws X.env)).all (·.1.isSome) = true := by rfl) (hks : (backToKw pos (keywordEach kws X.env)).filterMap (·.1) = ks := by rfl)
    (hpl : ((backTo pos (starEach [] X.env)).any (·.1) || (backToKw pos (keywordEach kws X.env)).any (·.1.isNone)) = false := by rfl) :
    DE X C (c1 + c) (.Call (.Name x p) [] kws pos) (fun ρ P E => fa ρ (fun ss => f (pick (.d false .none) ix ss) P E) E) := by
  obtain ⟨a, fd, F, hm, hk, _, oc, od, osl, lk⟩ := F.ex
  obtain ⟨a', fd', ⟨ex⟩, hm', _, _⟩ := ft
  obtain ⟨oc', od', kV, doc, pm, an, cdv, ct, osl', efd, lk', _⟩ := ex
  rw [hm] at hm'
  cases hm'
  rw [lk] at lk'
  cases lk'
  subst efd
  refine ⟨fun pins s σ H Q I h => ?_⟩
  obtain ⟨G, ρ, P, R, hf, kt'⟩ := h
  refine wpAny_Call_Name_kw (ld_glob I hg hm ?_ hdb)
  refine PySem.W.callWith_KW0 (h₀ := X.base) I.ok.mod.kin hk hall (thn (ha.run pos pins s σ H (fun zs H' => ∃ G' ss, StepN C.toBs c1 G H G' H' ∧ IsVs C.toBs G' H' zs ss ∧ ss.length = ks.length ∧ f (pick (.d false .none) ix ss) P C.ex) I ⟨G, ρ, _, R.l, hf, fun ss vs G' H' p hl S V => ⟨G', ss, S, V, hl.trans hkl, p⟩⟩) fun ws s2 ⟨zs, H2, I2, rz, G', ss, S, V, hl, q⟩ => ⟨I2.kIn, ?_⟩) hpl
  rw [hks]
  have lw : ws.length = ks.length := by rw [← rz.length, V.length, hl]
  have hq : FP X.K X.mg C.T c ps.length f (pick .non ix zs) H2 Q C.E := by
    refine ⟨C.toBs, G', _, P, C.ex, xc.K.symm, xc.mg.symm, rfl, (R.next S).capNow, S.ok, pick_is V ix, by unfold pick; rw [List.length_map, hi], q, fun s v G3 H3 q S2 V2 no => kt' s v G3 H3 q (S.trans S2) (V2.lower S), fun nm c G3 H3 q m S2 => xc.link nm c G3 H3 q (by rw [← xc.mg]; exact m) (R.out (S.trans S2))⟩
  have bd : BindsTo s2 _ ⟨[], ks.zip ws⟩ (ps.zip (pick .none ix ws)) := BindsTo.of_eq (kt x x kV doc pm an cdv ct ws lw)
  refine wpAny_call (codeAny_mono (F.go X.A X.stack s2 H2 ⟨[], ks.zip ws⟩ (pick .none ix ws) (pick .non ix zs) Q C.E (fun h => xc.guards (hgd h)) hr I2.env0 bd (pick_vals rz ix) hq) ?_)
  intro res s' hq
  match res, hq with
  | .error e, hq => exact xc.pass pins σ H2 s2 e s' I2 hq
  | .ok (.ret u), hq => exact I2.after hq
end
end DL
set_option Elab.async false
set_option linter.all false
set_option maxRecDepth 100000
set_option maxHeartbeats 1000000
namespace L2
open PySem PySem.Spec PyProof.Rows
/-- a comprehension's store under a key that is a tuple -/
theorem d_dictSetT {X : Cx} {pins : List (Addr × Obj)} {σ : St} {H : Hp} {s : Shared} {E : Value → Shared → Prop} {D b : Addr} {kvs : List (List Key × V)} {k : List Key} {v : V} {u r : Value} {Q : Unit → Shared → Prop} (hu : X.A.units + 1 < cLine) (I : Inv X pins σ H s)
    (hD : H D = some (.dT kvs)) (hl : kvs.length < sizeLine) (hb : H b = some (.tup (k.map kV))) (ry : RelV (.ref b) u) (rv : RelV v r) (h : ∀ s', Inv X pins σ (upd H D (.dT (putK kvs k v))) s' → Q () s') : wpAny (model X.prog X.w) X.A (dictSet D u r) Q E s := by
  cases (show u = Value.ref b from ry)
  obtain ⟨z, hd, xs, rel, dd⟩ := dt_of I.hok hD
  have ez : xs.length ≤ sizeLine := by rw [← Paired.length rel]; exact z
  have el : (putK kvs k v).length ≤ sizeLine := by have := length_putK kvs k v; omega
  refine wpAny_dictSet_heap (hsz := ez) (show X.A.units < cLine by omega) (key_of I.hok hb) dd fun h' dd' hs => h _ ?_
  obtain ⟨q, es, ep, e1, e2, e3, e4, _, e5⟩ := dd'
  refine d_write I (by rw [hD]; trivial) hs ⟨q, e1⟩ ⟨el, hd, _, (rel.put k hb rv).keeps fun c ys ec => ?_, q, es, ep, e1, e2, e3, e4, e5⟩
  rw [upd_ne (ne_of ec hD fun z => nomatch z)]; exact ec
section
variable {X : Cx}
/-- {k: v for ..}, the keys tuples -/
def tDcT (wi : TI) (g : TG) (tt : TT) (tk tv : TE) (vs : List Nat) : TE := fun σ H Q => wi σ H fun J H1 => ∀ D, H1 D = none → ∃ W : Nat → Nat → Hp → Prop, (∃ m, W 0 m (upd H1 D (.dT []))) ∧ ∀ i m H, W i m H →
  (J.stop i H ∧ Q (.ref D) H) ∨ (J.go i H ∧ ∃ Nx : Hp → Prop, (∀ H', Nx H' → ∃ m', m' < m ∧ W (i + 1) m' H') ∧ ∀ x H', J.yld i H x H' → g x (wipe σ vs) H' fun σ2 H2 => wipe σ2 vs = wipe σ vs ∧ tt σ2 H2 fun b H3 =>
    if b = true then tk σ2 H3 fun y H4 => tv σ2 H4 fun z H5 => ∃ kvs k b, y = .ref b ∧ H5 b = some (.tup (k.map kV)) ∧ H5 D = some (.dT kvs) ∧ kvs.length < sizeLine ∧ Nx (upd H5 D (.dT (putK kvs k z))) else Nx H3)
theorem dct_core {pins : List (Addr × Obj)} {s : Shared} {σ : St} {H : Hp} {Q : VK} {kx vx tg iter : Expr} {ifs : List Expr} {scope : Scope} {own : List (Str × Nat)} {pos pos' : Pos} {wi : TI} {g : TG} {tt : TT} {tk tv : TE} {use : Option (Value → Sem Unit)} {Qf : Value → Shared → Prop}
    (hc : X.calm = true) (hu : X.A.units + 1 < cLine) (hN : X.N.Nodup) (I0 : Inv X pins σ H s) (hi : PI X tg iter wi) (ok : BlkOk X.N X.env.scope scope own)
    (hg : ∀ (s : Shared) (H : Hp) (C : Addr) (cl : List (Str × Addr)) (fp : List Addr), PG (X.blk s H scope (compEnvC scope cl C X.env) fp) tg g) (ht : ∀ (s : Shared) (H : Hp) (C : Addr) (cl : List (Str × Addr)) (fp : List Addr), PTs (X.blk s H scope (compEnvC scope cl C X.env) fp) ifs tt)
    (hk : ∀ (s : Shared) (H : Hp) (C : Addr) (cl : List (Str × Addr)) (fp : List Addr), PE (X.blk s H scope (compEnvC scope cl C X.env) fp) kx tk)
    (he : ∀ (s : Shared) (H : Hp) (C : Addr) (cl : List (Str × Addr)) (fp : List Addr), PE (X.blk s H scope (compEnvC scope cl C X.env) fp) vx tv) (hs : ∀ x, foldedSetIterable iter X.env x = pure x)
    (h : tDcT wi g tt tk tv (own.map (·.2)) σ H Q)
    (hFin : ∀ D C s' m H', Inv X pins σ H' s' → Q (.ref D) H' → s'.heap.Ns C m → FpOk X pins H' C → compPost (model X.prog X.w) X.A X.xe use Qf (.ref D) C (.ok .next) s') :
    wpAny (model X.prog X.w) X.A (comprehension (.DictComp kx vx [⟨tg, iter, ifs, 0⟩] scope pos) scope X.env pos' newDict false (eval iter X.env) use) Qf X.xe s := by
  have free0 : ∀ y ∈ scope.names, y.2 = .free → ∃ c, X.env.cells.lookup y.1 = some c := fun y hy e => by
    rcases ok.free y hy e with k | k
    · exact I0.ok.has _ (.inl k)
    · exact I0.ok.has _ (.inr k)
  refine wpAny_comprehension_free (use := use) rfl hs (closure_ok free0) ok.kind (fun y hy e => by rw [ok.uniq y hy, e])
    (thn (hi.run pins s σ H _ I0 h) fun xw s1 hx => thn hx fun itw sA h2 => ?_)
  obtain ⟨it, fp, tn, J, HA, e, jA, Tn, tA, fA, q⟩ := h2
  subst e
  refine wpAny_newObj_type (newEnv_comp ?_)
  generalize eD0 : sA.heap.objs.size = D
  have nD0 : HA D = none := jA.hok.fresh (Nat.le_of_eq eD0)
  obtain ⟨W, ⟨mo0, wo0⟩, trn⟩ := q D nD0
  -- the new list
  generalize esB : ({ sA with heap := sA.heap.push { cls := .type "dict", data := .dict #[] } } : Shared) = sB
  have jB : Inv X pins σ (upd HA D (.dT [])) sB := by
    rw [← esB]
    refine jA.laid (t' := sA.toks) (fun b o e => Heap.get?_push_of_some _ e) (Nat.le_of_eq eD0) ?_
    rw [← eD0]
    exact dt_empty sA.heap jA.big
  have ehB : sB.heap = sA.heap.push { cls := .type "dict", data := .dict #[] } := by rw [← esB]
  have sz0 : ∀ b ∈ fp, b < sA.heap.objs.size := fun b hb => by
    obtain ⟨o, e, _⟩ := Tn.obj _ _ tA b hb
    exact Heap.lt_size e
  have fB : ∀ b ∈ fp, FpOk X pins (upd HA D (.dT [])) b ∧ b < sB.heap.objs.size := fun b hb => by
    have hlt := sz0 b hb
    refine ⟨⟨?_, (fA b hb).2⟩, by rw [ehB, Heap.size_push]; exact Nat.lt_succ_of_lt hlt⟩
    rw [upd_ne (by rw [← eD0]; exact Nat.ne_of_lt hlt)]
    exact (fA b hb).1
  have tB : tn 0 sB.heap := Tn.keep _ _ _ tA fun b _ o e => by rw [ehB]; exact Heap.get?_push_of_some _ e
  have jC := block_start jB ok hN fB
  have dg := hg sB (upd HA D (.dT [])) sB.heap.objs.size (cellsFrom (sB.heap.objs.size + 1) scope.names (cloFrom X.env.cells scope.names [])) fp
  have dt := ht sB (upd HA D (.dT [])) sB.heap.objs.size (cellsFrom (sB.heap.objs.size + 1) scope.names (cloFrom X.env.cells scope.names [])) fp
  have dk := hk sB (upd HA D (.dT [])) sB.heap.objs.size (cellsFrom (sB.heap.objs.size + 1) scope.names (cloFrom X.env.cells scope.names [])) fp
  have dv := he sB (upd HA D (.dT [])) sB.heap.objs.size (cellsFrom (sB.heap.objs.size + 1) scope.names (cloFrom X.env.cells scope.names [])) fp
  show codeAny _ _ (.compStart (.DictComp kx vx [⟨tg, iter, ifs, 0⟩] scope pos) 0 (.ref it) (.ref D) (compEnvC scope (cellsFrom (sB.heap.objs.size + 1) scope.names (cloFrom X.env.cells scope.names [])) sB.heap.objs.size X.env)) (compPost (model X.prog X.w) X.A X.xe use Qf (.ref D) sB.heap.objs.size) { sB with heap := pushCells (sB.heap.push { cls := .type "dict", data := .dict #[] }) scope.names }
  have nfp0 : ∀ b ∈ fp, (upd HA D (.dT [])) b = none := fun b hb => (fB b hb).1.1
  generalize ecen : compEnvC scope (cellsFrom (sB.heap.objs.size + 1) scope.names (cloFrom X.env.cells scope.names [])) sB.heap.objs.size X.env = cen at jC dg dt dk dv ⊢
  have cLoc : cen.locals = sB.heap.objs.size := by subst ecen; rfl
  generalize eHB : upd HA D (.dT []) = HB at jB jC dg dt dk dv wo0 nfp0 fB
  generalize esC : ({ sB with heap := pushCells (sB.heap.push { cls := .type "dict", data := .dict #[] }) scope.names } : Shared) = sC at jC ⊢
  have tC : tn 0 sC.heap := Tn.keep _ _ _ tB fun b _ o e => by rw [← esC]; exact pushCells_keeps _ _ _ _ (Heap.get?_push_of_some _ e)
  have stt : ∀ {σ' : St} {H' : Hp} {s' : Shared}, Inv (X.blk sB HB scope cen fp) [] σ' H' s' → (∀ b ∈ fp, H' b = none) → ∀ b ∈ fp, FpOk (X.blk sB HB scope cen fp) [] H' b := fun {σ' H' s'} I' hn b hb =>
    ⟨hn b hb, (I'.ok.exf b hb).1, I'.ok.exfs b hb, .inl hb, fun x c e => (I'.ok.exf b hb).2 x c e, fun p hp => absurd (show p ∈ ([] : List (Addr × Obj)) ++ [] from hp) (by simp)⟩
  have lp : codeAny (model X.prog X.w) X.A (.compLoop (.DictComp kx vx [⟨tg, iter, ifs, 0⟩] scope pos) 0 (.ref it) (.ref D) cen) (compPost (model X.prog X.w) X.A X.xe use Qf (.ref D) sB.heap.objs.size) sC := by
    refine compLoop_anyD (fun n s' => ∃ i H', Inv (X.blk sB HB scope cen fp) [] (wipe σ (own.map (·.2))) H' s' ∧ tn i s'.heap ∧ (∀ b ∈ fp, H' b = none) ∧ W i n H') ?_ mo0 ⟨0, HB, jC, tC, nfp0, wo0⟩
    rintro n sD ⟨i, HD, jD, tD, nD, wD⟩
    rcases trn i n HD wD with ⟨stp0, qq⟩ | ⟨go0, Nx, hnx, stp⟩
    · have tdn := Tn.done (X.blk sB HB scope cen fp) rfl rfl rfl hc i [] sD _ HD (fun _ _ => False) jD (stt jD nD) tD stp0
      refine thnF tdn fun r sE ⟨hr, jE⟩ => ?_
      subst hr
      -- back in the def's context
      have jF : Inv X pins σ HD sE := jB.call' (ch := fp) jE.os jE.base jE.hok jE.bare fun b hb => ⟨(fB b hb).1.2.2.2.1, (fB b hb).1.2.1, (fB b hb).1.2.2.2.2.1, (fB b hb).1.2.2.2.2.2⟩
      have nC : HD sB.heap.objs.size = none := by
        have z : HD cen.locals = none := jE.free
        rw [cLoc] at z
        exact z
      obtain ⟨m, hn, _⟩ := jE.loc
      have hn : sE.heap.Ns cen.locals m := hn
      rw [cLoc] at hn
      exact hFin D sB.heap.objs.size sE m HD jF qq hn (jB.fpOk (Nat.le_refl _) nC)
    · have tim := Tn.item (X.blk sB HB scope cen fp) rfl rfl rfl hc i [] sD _ HD (fun _ _ => False) jD (stt jD nD) tD go0
      refine thnF tim fun r sE ⟨u, hr, hE⟩ => ?_
      subst hr
      refine thnF hE fun _ sF ⟨x, HF, jF, rF, yF, tF, nF⟩ => ?_
      have jF' := jF.pinned (stt jF nF) (Tn.obj _ _ tF)
      refine thnF (dg.run _ sF _ HF x u _ jF' rF (stp x HF yF)) fun _ sG ⟨σG, HG, jG, wG, qG⟩ => ?_
      refine thnF (dt.run _ sG σG HG _ jG qG) fun b sH ⟨HH, jH, qH⟩ => ?_
      -- the turn's end
      have fn0 : ∀ {s' : Shared} {H' : Hp}, Inv (X.blk sB HB scope cen fp) ([] ++ pinsAt fp sF.heap) σG H' s' → Nx H' → ∃ m, m < n ∧ ∃ i H', Inv (X.blk sB HB scope cen fp) [] (wipe σ (own.map (·.2))) H' s' ∧ tn i s'.heap ∧ (∀ b ∈ fp, H' b = none) ∧ W i m H' := fun {s' H'} I' nx => by
        obtain ⟨mm, hm, w'⟩ := hnx H' nx
        have pin2 : ∀ b ∈ fp, ∀ o, sF.heap.get? b = some o → s'.heap.get? b = some o ∧ H' b = none := fun b hb o e =>
          let z := I'.pin (b, o) (List.mem_append_right _ (List.mem_append_right _ (mem_pinsAt hb e)))
          ⟨z.1, z.2.1⟩
        have hl : (wipe σ (own.map (·.2))).length = σG.length := by rw [← wG, wipe_length]
        refine ⟨mm, hm, i + 1, H', (I'.unpinned (pins := [])).weak hl (fun j v e => ?_), Tn.keep _ _ _ tF fun b hb o e => (pin2 b hb o e).1, fun b hb => ?_, w'⟩
        · rw [← wG] at e
          exact (wipe_some e).1
        · obtain ⟨o, e, _⟩ := Tn.obj _ _ tF b hb
          exact (pin2 b hb o e).2
      cases b with
      | false =>
        simp only [Bool.false_eq_true, if_false] at qH ⊢
        exact fn0 jH qH
      | true =>
        simp only [if_true] at qH ⊢
        refine thnF (dk.run _ sH σG HH _ jH qH) fun z s10 ⟨yk, H10, I10, r10, q10⟩ => ?_
        refine thnF (dv.run _ s10 σG H10 _ I10 q10) fun z2 s11 ⟨yv, H11, I11, r11, kvs, k, b, ek, eb, hD11, hz11, nx⟩ => ?_
        subst ek
        exact d_dictSetT (X := X.blk sB HB scope cen fp) hu I11 hD11 hz11 eb r10 r11 fun s12 I12 => fn0 I12 nx
  exact codeAny_compStart_dict lp (Tn.self X.A 0 _ _ _ tC lp)

theorem pe_dct {kx vx tg iter : Expr} {ifs : List Expr} {scope : Scope} {own : List (Str × Nat)} {pos : Pos} {wi : TI} {g : TG} {tt : TT} {tk tv : TE} (hc : X.calm = true) (hu : X.A.units + 1 < cLine) (hN : X.N.Nodup) (hi : PI X tg iter wi) (ok : BlkOk X.N X.env.scope scope own)
    (hg : ∀ (s : Shared) (H : Hp) (C : Addr) (cl : List (Str × Addr)) (fp : List Addr), PG (X.blk s H scope (compEnvC scope cl C X.env) fp) tg g) (ht : ∀ (s : Shared) (H : Hp) (C : Addr) (cl : List (Str × Addr)) (fp : List Addr), PTs (X.blk s H scope (compEnvC scope cl C X.env) fp) ifs tt)
    (hk : ∀ (s : Shared) (H : Hp) (C : Addr) (cl : List (Str × Addr)) (fp : List Addr), PE (X.blk s H scope (compEnvC scope cl C X.env) fp) kx tk)
    (he : ∀ (s : Shared) (H : Hp) (C : Addr) (cl : List (Str × Addr)) (fp : List Addr), PE (X.blk s H scope (compEnvC scope cl C X.env) fp) vx tv) (hs : ∀ x, foldedSetIterable iter X.env x = pure x := by intro _; rfl) :
    PE X (.DictComp kx vx [⟨tg, iter, ifs, 0⟩] scope pos) (tDcT wi g tt tk tv (own.map (·.2))) := by
  refine ⟨fun pins s σ H Q I0 h => ?_⟩
  rw [arm_eval_DictComp]
  refine dct_core hc hu hN I0 hi ok hg ht hk he hs h fun D C s' m H' I' q hn f => ⟨m, hn, fun h'' sb => ?_⟩
  obtain ⟨f0, f1, fA, fB, f4, f5⟩ := f
  exact ⟨.ref D, H', I'.turned (t' := s'.toks) (fun b o hb e => (sb.2 b hb).trans e) f0 f1 fB f4 f5, rfl, q⟩
end
end L2
set_option Elab.async false
set_option linter.all false
set_option maxRecDepth 100000
set_option maxHeartbeats 1000000
namespace DL
open PySem PySem.Spec PyProof.Rows L2
/-! ## dicts whose keys are tuples -/
/-- d[x] = v -/
def putD (kds : List (D × D)) (x v : D) : List (D × D) := if kds.any (fun p => PyData.eqv p.1 x) then kds.map fun p => if PyData.eqv p.1 x then (p.1, v) else p else kds ++ [(x, v)]
theorem eqv_tk (z y : List Key) : PyData.eqv (.tuple (z.map kD)) (.tuple (y.map kD)) = decide (z = y) := eqv_keys z y
theorem IsDT.append {K : PySem.W.Frag} {k : Bool} {H : Hp} {v : V} {d : D} (y : List Key) (i : Is K k H v d) : ∀ {kvs : List (List Key × V)} {kds : List (D × D)}, IsDT K k H kvs kds → IsDT K k H (kvs ++ [(y, v)]) (kds ++ [(.tuple (y.map kD), d)])
  | _, _, .nil => .cons i .nil
  | _, _, .cons a b => .cons a (b.append y i)
theorem IsDT.repl {K : PySem.W.Frag} {k : Bool} {H : Hp} {v : V} {d : D} (y : List Key) (i : Is K k H v d) : ∀ {kvs : List (List Key × V)} {kds : List (D × D)}, IsDT K k H kvs kds →
    IsDT K k H (kvs.map fun kv => if kv.1 = y then (kv.1, v) else kv) (kds.map fun p => if PyData.eqv p.1 (.tuple (y.map kD)) then (p.1, d) else p)
  | _, _, .nil => .nil
  | _, _, @IsDT.cons _ _ _ z w r e rd a b => by
    rw [List.map_cons, List.map_cons]
    by_cases q : z = y
    · have q2 : PyData.eqv (.tuple (z.map kD)) (.tuple (y.map kD)) = true := by rw [eqv_tk]; exact decide_eq_true q
      rw [if_pos q, if_pos q2]; exact .cons i (b.repl y i)
    · have q2 : ¬ PyData.eqv (.tuple (z.map kD)) (.tuple (y.map kD)) = true := by rw [eqv_tk]; simpa using q
      rw [if_neg q, if_neg q2]; exact .cons a (b.repl y i)
theorem IsDT.any {K : PySem.W.Frag} {k : Bool} {H : Hp} (y : List Key) : ∀ {kvs : List (List Key × V)} {kds : List (D × D)}, IsDT K k H kvs kds → (kds.any fun p => PyData.eqv p.1 (.tuple (y.map kD))) = kvs.any fun kv => decide (kv.1 = y)
  | _, _, .nil => rfl
  | _, _, @IsDT.cons _ _ _ z w r e rd a b => by
    rw [List.any_cons, List.any_cons, b.any y]
    show (PyData.eqv (.tuple (z.map kD)) (.tuple (y.map kD)) || _) = _
    rw [eqv_tk]
theorem IsDT.put {K : PySem.W.Frag} {k : Bool} {H : Hp} {v : V} {d : D} (y : List Key) (i : Is K k H v d) {kvs : List (List Key × V)} {kds : List (D × D)} (h : IsDT K k H kvs kds) : IsDT K k H (putK kvs y v) (putD kds (.tuple (y.map kD)) d) := by
  unfold putK putD
  rw [h.any y]
  split
  · exact h.repl y i
  · exact h.append y i
/-- a tracked tuple of ints and texts -/
def keyTW (s : SV) (P : List Key → Prop) : Prop := match s with
  | .d false (.tuple ds) => ∃ ks, keys? ds = some ks ∧ P ks
  | _ => False
theorem keyTW_is {B : Bs} {G H : Hp} {v : V} {s : SV} {P : List Key → Prop} (h : keyTW s P) (i : IsV B G H v s) : ∃ ks b, P ks ∧ v = .ref b ∧ G b = some (.tup (ks.map kV)) := by
  unfold keyTW at h
  split at h
  · rename_i ds
    obtain ⟨ks, e, p⟩ := h
    have e' := keys_of? e
    subst e'
    cases i with
    | tup e2 _ i2 => rw [i2.keys] at e2; exact ⟨ks, _, p, rfl, e2⟩
    | tupK q _ _ _ => cases q
  · exact h.elim
def dcW (g : WG) (ft : WB) (fk fv : W1) : List SV → Env → Bool → List (D × D) → (SV → Prop) → Prop
  | [], _, k, acc, P => P (.fr k (.dict acc))
  | s :: r, ρ, k, acc, P => g s ρ fun ρ' => ft ρ' (fun b => if b = true then fk ρ' (fun y => keyTW y fun ks => fv ρ' (fun v => keepW v fun t => datW t fun k' z => dcW g ft fk fv r ρ (k || k') (putD acc (.tuple (ks.map kD)) z) P) (fun _ => False)) (fun _ => False) else dcW g ft fk fv r ρ k acc P) (fun _ => False)
section
variable {X : Cx} {C : Cn} {G H : Hp} {ρ : Env} {σ : L2.St} {G1 H1 G' H' : Hp} {D : Addr} {k k' : Bool} {kvs : List (List Key × V)} {ds : List (DL.D × DL.D)} {v : V} {y : DL.D}
structure Dc (C : Cn) (G1 H1 : Hp) (D : Addr) (G H : Hp) (k : Bool) (kvs : List (List Key × V)) (ds : List (DL.D × DL.D)) : Prop where
  st : Step C.toBs G1 H1 G H
  gd : G D = none
  hd : H D = some (.dT kvs)
  il : IsDT C.K k G kvs ds
theorem Dc.step (L : Dc C G1 H1 D G H k kvs ds) (n : H1 D = none) (S : Step C.toBs G H G' H') : Dc C G1 H1 D G' H' k kvs ds where
  st := L.st.trans S
  gd := by
    cases z : G' D with
    | none => rfl
    | some u =>
      rcases S.new D (by rw [z]; exact Option.some_ne_none _) with y | y
      · exact absurd L.gd y
      · exact (nw_not y L.hd rfl).elim
  hd := S.keep D _ L.hd (L.st.ok0.notHid (fr0_none n)) (fun ps => HO.noConfusion)
  il := L.il.mono S.sub
theorem Dc.push (L : Dc C G1 H1 D G H k kvs ds) (n : H1 D = none) (ks : List Key) (i : Is C.K k' G v y) : Dc C G1 H1 D G (upd H D (.dT (putK kvs ks v))) (k || k') (putK kvs ks v) (putD ds (.tuple (ks.map kD)) y) where
  st := L.st.write (fr0_none n) L.hd rfl (L.st.ok0.notHid (fr0_none n)) L.gd
  gd := L.gd
  hd := upd_same
  il := (L.il.k or_l).put ks (Is.k or_r i)
variable {kx vx tg iter : Expr} {ifs : List Expr} {scope : Scope} {own : List (Str × Nat)} {pos : Pos} {fi : WA} {g : WG} {t : TG} {ft : WB} {fk fv : W1}
theorem td_dct {c1 c2 c3 c4 : Nat} {wi : TI} (q1 : ∀ σ H R, TDI C c1 fi σ H R → wi σ H R) (q2 : GSem C.quiet (own.map (·.2)) g t) : ∀ σ H Q, TD C (c1 + 16777216 * (c2 + (c3 + c4))) (fun ρ P E => fi ρ (fun ss => dcW g ft fk fv ss (wipeE ρ (own.map (·.2))) false [] P) E) σ H Q → tDcT wi t (TDT C.quiet c2 ft) (TD C.quiet c3 fk) (TD C.quiet c4 fv) (own.map (·.2)) σ H Q := by
  rintro σ H Q ⟨G, ρ, P, R, hf, kt⟩
  refine q1 σ H _ ⟨G, ρ, _, R.l, hf, fun ss G1 H1 J hc S it => fun D n => ?_⟩
  have R1 := (R.toRel.step S.toStep).wiped (own.map (·.2))
  have Rn := R.next S
  have sa := StepN.alloc (o := HO.dT []) S.ok n
  have len := it.len
  rw [sizeLine_eq] at len
  refine ⟨fun i m H2 => m + i = ss.length ∧ Gr C.toBs (i * (c2 + (c3 + c4))) H1 H2 ∧ ∃ G2 k acc ds, Dc C G1 H1 D G2 H2 k acc ds ∧ acc.length ≤ i ∧ dcW g ft fk fv (ss.drop i) (wipeE ρ (own.map (·.2))) k ds P, ⟨ss.length, by omega, by rw [Nat.zero_mul]; exact sa.gr, G1, false, [], [], ⟨sa.toStep, S.ok.noG n, upd_same, .nil⟩, Nat.le_refl _, by rw [List.drop_zero]; exact hc⟩, ?_⟩
  rintro i m H2 ⟨hm, gr, G2, k, acc, ds, L, hl, hc⟩
  by_cases hi : i < ss.length
  · have up : i * (c2 + (c3 + c4)) + (c2 + (c3 + c4)) ≤ 16777216 * (c2 + (c3 + c4)) := by
      have := Nat.mul_le_mul_right (c2 + (c3 + c4)) (show i + 1 ≤ 16777216 by omega)
      rw [Nat.succ_mul] at this
      exact this
    refine .inr ⟨it.go G2 H2 i L.st.sub L.st.ok hi, fun H3 => Gr C.toBs ((i + 1) * (c2 + (c3 + c4))) H1 H3 ∧ ∃ G3 k acc ds, Dc C G1 H1 D G3 H3 k acc ds ∧ acc.length ≤ i + 1 ∧ dcW g ft fk fv (ss.drop (i + 1)) (wipeE ρ (own.map (·.2))) k ds P, ?_, ?_⟩
    · rintro H3 ⟨g3, G3, k, acc, ds, L, hl, hc⟩
      exact ⟨m - 1, by omega, by omega, g3, G3, k, acc, ds, L, hl, hc⟩
    · intro x H3 y
      obtain ⟨G3, S3, V3⟩ := it.yld G2 H2 i x H3 _ L.st.sub L.st.ok (List.getElem?_eq_getElem hi) y
      obtain ⟨n1, n2⟩ := it.keep _ (List.getElem_mem hi)
      have L3 := L.step n S3.toStep
      have g3 : Gr C.toBs (i * (c2 + (c3 + c4))) H1 H3 := gr.trans L.st.ok S3.gr
      rw [List.drop_eq_getElem_cons hi] at hc
      refine q2 G3 _ _ H3 _ x _ _ (R1.step L3.st).quiet V3 n1 n2 hc fun ρ4 σ4 h4 R4 e4 => ?_
      have R5 : RelN C.quiet (c2 + (c3 + c4)) G3 ρ4 σ4 H3 := (Rn.le up).quiet.go g3 R4
      refine ⟨by rw [e4, wipe_wipe _ fun v hv => hv], G3, ρ4, _, R5.l, h4, fun b G5 H5 h5 S5 => ?_⟩
      have L5 := L3.step n S5.toStep
      cases b with
      | false =>
        have e5 : Gr C.toBs ((i + 1) * (c2 + (c3 + c4))) H1 H5 := by
          rw [Nat.succ_mul]
          exact g3.trans L3.st.ok (S5.gr.le (Nat.le_add_right _ _))
        exact ⟨e5, G5, k, acc, ds, L5, by omega, h5⟩
      | true =>
        rw [if_pos rfl] at h5
        show TD C.quiet c3 fk σ4 H5 _
        refine ⟨G5, ρ4, _, (R5.next S5).l, h5, fun s v G6 H6 h6 S6 V6 => ?_⟩
        obtain ⟨ks, b, h6, ev, eb⟩ := keyTW_is h6 V6.1
        have L6 := L5.step n S6.toStep
        refine ⟨G6, ρ4, _, (R5.next S5).next S6, h6, fun s2 v2 G7 H7 h7 S7 V7 => ?_⟩
        obtain ⟨G8, t8, S8, V8, m1, m2, h8⟩ := keep_is S7 V7 h7
        obtain ⟨k', z, rfl, h9⟩ := datW_is h8
        have L8 := L6.step n S8.toStep
        have e7 : Gr C.toBs ((i + 1) * (c2 + (c3 + c4))) H1 H7 := by
          rw [Nat.succ_mul]
          exact g3.trans L3.st.ok (S5.gr.trans S5.ok (S6.gr.trans S6.ok S8.gr))
        have e8 : Gr C.toBs ((i + 1) * (c2 + (c3 + c4))) H1 (upd H7 D (.dT (putK acc ks v2))) := e7.trans L8.st.ok (Gr.same fun x hx => by rw [upd_ne fun q => S.ok.notHid (fr0_none n) (by rw [← q]; exact hx)])
        have hlen := it.len
        have lp := length_putK acc ks v2
        exact ⟨acc, ks, b, ev, S8.ok.sub _ _ (S8.sub _ _ eb), L8.hd, by omega, e8, G8, k || k', putK acc ks v2, _, L8.push n ks V8, by omega, h9⟩
  · have he : i = ss.length := by omega
    subst he
    rw [List.drop_length] at hc
    refine .inl ⟨it.stop G2 H2 L.st.sub L.st.ok, ?_⟩
    have hlen := it.len
    have all : ss.length * (c2 + (c3 + c4)) ≤ 16777216 * (c2 + (c3 + c4)) := Nat.mul_le_mul_right _ (by omega)
    refine kt (.fr k (.dict ds)) (.ref D) G2 H2 hc (S.trans ⟨L.st, gr.le all⟩) ⟨⟨D, rfl, S.ok.notHid (fr0_none n), L.gd, .inr ⟨acc, L.hd, L.il⟩⟩, fun _ _ _ q e => ?_⟩
    cases e
    exact S.dom (fr0_none n)
theorem de_dct {c1 c2 c3 c4 : Nat} (xc : XC X C) (hN : X.N.Nodup) (hi : DI X C c1 tg iter fi) (ok : BlkOk X.N X.env.scope scope own)
    (hg : ∀ (s : Shared) (H : Hp) (cc : Addr) (cl : List (Str × Addr)) (fp : List Addr), DG (X.blk s H scope (compEnvC scope cl cc X.env) fp) C.quiet (own.map (·.2)) tg g t) (ht : ∀ (s : Shared) (H : Hp) (cc : Addr) (cl : List (Str × Addr)) (fp : List Addr), DTs (X.blk s H scope (compEnvC scope cl cc X.env) fp) C.quiet c2 ifs ft)
    (hk : ∀ (s : Shared) (H : Hp) (cc : Addr) (cl : List (Str × Addr)) (fp : List Addr), DE (X.blk s H scope (compEnvC scope cl cc X.env) fp) C.quiet c3 kx fk)
    (hv : ∀ (s : Shared) (H : Hp) (cc : Addr) (cl : List (Str × Addr)) (fp : List Addr), DE (X.blk s H scope (compEnvC scope cl cc X.env) fp) C.quiet c4 vx fv) (hs : ∀ x, foldedSetIterable iter X.env x = pure x := by intro _; rfl) :
    DE X C (c1 + 16777216 * (c2 + (c3 + c4))) (.DictComp kx vx [⟨tg, iter, ifs, 0⟩] scope pos) (fun ρ P E => fi ρ (fun ss => dcW g ft fk fv ss (wipeE ρ (own.map (·.2))) false [] P) E) := by
  obtain ⟨w, p1, q1⟩ := hi
  obtain ⟨kk, rm⟩ := xc.room
  refine ⟨fun pins s σ H Q I h => ?_⟩
  refine (pe_dct (own := own) xc.calm (by have := rm.un; omega) hN p1 ok (fun s H cc cl fp => (hg s H cc cl fp).1) ht hk hv hs).run pins s σ H Q I (td_dct q1 (hg s H 0 [] []).2 σ H Q h)
end
end DL
set_option Elab.async false
set_option linter.all false
set_option maxRecDepth 100000
set_option maxHeartbeats 1000000
namespace DL
open PySem PySem.Spec PyProof.Rows L2
/-! ## dict(pairs), the keys tuples -/
def pairT : D → Option (List Key × D)
  | .tuple [.tuple ks, v] => (keys? ks).map fun y => (y, v)
  | _ => none
def pairsT : List D → Option (List (List Key × D))
  | [] => some []
  | d :: r => match pairT d, pairsT r with
    | some p, some ps => some (p :: ps)
    | _, _ => none
def mergeD (acc : List (D × D)) (ps : List (List Key × D)) : List (D × D) := ps.foldl (fun a p => putD a (.tuple (p.1.map kD)) p.2) acc
def dictW : O1 := fun ss P => match ss with
  | [s] => match lv s with
    | some xs => flg s = false ∧ ∃ ps, pairsT xs = some ps ∧ P (.fr false (.dict (mergeD [] ps)))
    | none => False
  | _ => False
section
variable {X : Cx} {C : Cn} {pins : List (Addr × Obj)} {σ : L2.St} {H : Hp} {s : Shared}
theorem pairsT_of {G : Hp} (I : Inv X pins σ H s) (sub : Same G H) : ∀ {xs : List D} {vs : List V} {us : List Value} {ps : List (List Key × D)}, IsL X.K false G vs xs → Vals vs us → pairsT xs = some ps →
    ∃ (ts : List Addr) (kvs : List (List Key × V)) (qs : List (List Key × Addr × Value)), us = ts.map .ref ∧ qs.length = ts.length ∧ KT H kvs qs ∧ Paired (fun (p : List Key × D) kv => p.1 = kv.1 ∧ Is X.K false G kv.2 p.2) ps kvs ∧
      ∀ (j : Nat) (q : List Key × Addr × Value), qs[j]? = some q → ∃ t, ts[j]? = some t ∧ PySem.PairAt s.heap t (.ref q.2.1) q.2.2
  | [], _, _, _, .nil, .nil, e => by
    cases e
    exact ⟨[], [], [], rfl, rfl, .nil, .nil, fun j q e => by simp at e⟩
  | d :: r, _, _, ps, .cons a b, .cons ra rb, e => by
    unfold pairsT at e
    split at e
    · rename_i p ps' e1 e2
      cases e
      obtain ⟨ts, kvs, qs, h1, h2, h3, h4, h5⟩ := pairsT_of I sub b rb e2
      unfold pairT at e1
      split at e1
      · rename_i ks v
        obtain ⟨y, ey, ep⟩ := Option.map_eq_some_iff.mp e1
        subst ep
        have ey' := keys_of? ey
        subst ey'
        cases a with
        | tupK q _ _ _ => cases q
        | @tup T xs _ hT _ iT =>
          obtain rfl : _ = Value.ref T := ra
          cases iT with
          | cons k1 iT =>
          cases iT with
          | cons k2 iT =>
          cases iT
          cases k1 with
          | tupK q _ _ _ => cases q
          | @tup B zs _ hB _ iB =>
            rw [iB.keys] at hB
            obtain ⟨its, rv, ht, _⟩ := I.tuple (SqT.of (sub _ _ hT))
            obtain ⟨u, w, ei, ru, rw'⟩ := vals2 rv
            subst ei
            obtain rfl : u = Value.ref B := ru
            refine ⟨T :: ts, (y, _) :: kvs, (y, B, w) :: qs, by rw [h1]; rfl, by rw [List.length_cons, List.length_cons, h2], .cons ⟨rfl, sub _ _ hB, rw'⟩ h3, .cons ⟨rfl, k2⟩ h4, fun j q e => ?_⟩
            match j, e with
            | 0, e => cases e; exact ⟨T, rfl, .inl ht⟩
            | j + 1, e => exact h5 j q e
      · cases e1
    · cases e
theorem merge_kt : ∀ {kvs : List (List Key × V)} {qs : List (List Key × Addr × Value)} {acc : List (List Key × V)} {xs : List (List Key × Addr × Value)}, KT H kvs qs → KT H acc xs → KT H (kvs.foldl (fun a p => putK a p.1 p.2) acc) (PySem.storedAllH xs qs)
  | [], _, _, _, .nil, h => h
  | _ :: _, _, acc, xs, @Paired.cons _ _ _ kv q _ _ a b, h => by
    show KT H (List.foldl _ (putK acc kv.1 kv.2) _) (PySem.storedAllH (storedH xs q.1 q.2.1 q.2.2) _)
    rw [← a.1]
    exact merge_kt b (h.put kv.1 a.2.1 a.2.2)
theorem merge_is {K : PySem.W.Frag} {k : Bool} : ∀ {ps : List (List Key × D)} {kvs : List (List Key × V)} {acc : List (List Key × V)} {ds : List (D × D)}, Paired (fun (p : List Key × D) kv => p.1 = kv.1 ∧ Is K k H kv.2 p.2) ps kvs → IsDT K k H acc ds → IsDT K k H (kvs.foldl (fun a p => putK a p.1 p.2) acc) (mergeD ds ps)
  | [], _, _, _, .nil, h => h
  | _ :: _, _, acc, ds, @Paired.cons _ _ _ p kv _ _ a b, h => by
    show IsDT K k H (List.foldl _ (putK acc kv.1 kv.2) _) (mergeD (putD ds (.tuple (p.1.map kD)) p.2) _)
    rw [a.1]
    exact merge_is b (h.put kv.1 a.2)
theorem merge_len : ∀ (kvs acc : List (List Key × V)), (kvs.foldl (fun a p => putK a p.1 p.2) acc).length ≤ acc.length + kvs.length
  | [], acc => Nat.le_refl _
  | p :: r, acc => by
    have h1 := merge_len r (putK acc p.1 p.2)
    have h2 := length_putK acc p.1 p.2
    rw [List.foldl_cons, List.length_cons]
    omega
theorem kt_at {kvs : List (List Key × V)} {qs : List (List Key × Addr × Value)} (I : Inv X pins σ H s) (r : KT H kvs qs) : ∀ q ∈ qs, (tupleKind (mixKind X.prog X.w)).is s.heap q.1 q.2.1 := by
  induction r with
  | nil => intro q hq; cases hq
  | @cons p q _ _ a _ ih =>
    intro x hx
    rcases List.mem_cons.mp hx with e | hx
    · subst e
      exact key_of I.hok (by rw [← a.1]; exact a.2.1)
    · exact ih x hx
theorem dcall_dictT (xc : XC X C) : DCall X C (.type "dict") dictW := by
  intro pins s σ H vs us Q I rv h
  obtain ⟨G, ss, P, w, iv, h, kt⟩ := h
  obtain ⟨rk, rm⟩ := xc.room
  unfold dictW at h
  split at h
  · obtain ⟨v, ev, jv⟩ := iv.one
    subst ev
    split at h
    · rename_i xs e1
      obtain ⟨hf, ps, eps, p⟩ := h
      obtain ⟨a, ys, rfl, h1, i1, z1⟩ := lv_is e1 w jv
      rw [hf, ← xc.K] at i1
      obtain ⟨u, eu, rx⟩ := vals1 rv
      subst eu
      obtain rfl : u = Value.ref a := rx
      obtain ⟨its, rl, pl, hz⟩ := I.list (SqL.of h1)
      obtain ⟨ts, kvs, qs, e2, l2, hkt, his, hat⟩ := pairsT_of I w.sub i1 rl eps
      have lp : qs.length = its.length := by rw [l2, e2, List.length_map]
      have hz2 : qs.length ≤ sizeLine := by rw [lp, ← rl.length]; exact hz
      let Ts : Nat → Addr := fun j => ts.getD j 0
      have arg := PySem.PairArg.list (prog := X.prog) (w := X.w) a its.toArray Ts (qs.map fun q => (Value.ref q.2.1, q.2.2))
      refine PySem.call_dict_pairsH (knd := tupleKind (mixKind X.prog X.w)) (ps := qs) arg (I.ok.hd xc.calm) (show X.A.in1.in1.units < cLine from ?_) ⟨?_, ?_, ?_⟩ ⟨by rw [List.length_map], ?_⟩ ?_ (by rw [List.length_map]; exact hz2) fun h' tk hd' k => ?_
      · show X.A.units + 1 + 1 < cLine
        have := rm.un
        omega
      · obtain ⟨o, n, q1, q2, q3, q4⟩ := pl
        exact ⟨o, n, q1, q2, q3, q4⟩
      · rw [List.size_toArray, List.length_map, lp]
      · intro j kk vv hj
        rw [List.getElem?_map] at hj
        obtain ⟨q, hq, eq⟩ := Option.map_eq_some_iff.mp hj
        cases eq
        obtain ⟨t, ht, hp⟩ := hat j q hq
        have eT : Ts j = t := by show ts.getD j 0 = t; rw [List.getD_eq_getElem?_getD, ht]; rfl
        rw [eT]
        refine ⟨?_, hp⟩
        rw [e2]
        simp [ht]
      · intro i key v' hr
        have hr : (qs.map fun q => (Value.ref q.2.1, q.2.2))[i]? = some (key, v') := hr
        rw [List.getElem?_map] at hr
        obtain ⟨q, hq, eq⟩ := Option.map_eq_some_iff.mp hr
        cases eq
        exact ⟨q.1, q.2.1, hq, rfl⟩
      · intro h' hk x hx
        obtain ⟨o, items, n, q1, q2, q3, q4⟩ := kt_at I hkt x hx
        exact ⟨o, items, n, hk _ o (Nat.ne_of_lt (Heap.lt_size q1)) (fun z => nomatch z) q1, q2, q3, q4⟩
      · have hm : (s.heap.objs.size == sysModules) = false := beq_eq_false_iff_ne.mpr (Nat.ne_of_gt I.big)
        have hn := I.hok.fresh (Nat.le_refl _)
        obtain ⟨o, es, ep, q1, q2, q3, q4, _, q5⟩ := hd'
        have lk : kvs.length = qs.length := Paired.length hkt
        have ll := merge_len kvs []
        have km := merge_kt hkt (Paired.nil : KT H [] [])
        have hI : Inv X pins σ (upd H s.heap.objs.size (.dT (kvs.foldl (fun a p => putK a p.1 p.2) []))) { s with heap := h', toks := tk } := by
          refine I.laid (t' := tk) (fun b o e => k b o (fun z => nomatch z) e) (Nat.le_refl _) ⟨?_, hm, _, KT.keeps km fun b ys e => ?_, o, es, ep, q1, q2, q3, q4, q5⟩
          · rw [List.length_nil] at ll; omega
          · rw [upd_ne (ne_of_none e hn)]; exact e
        refine ⟨.ref s.heap.objs.size, _, hI, rfl, ?_⟩
        rw [xc.K] at his
        exact rD_frDT w kt p (merge_is his .nil) _ hn
    · exact h.elim
  · exact h.elim
end
end DL
set_option Elab.async false
set_option linter.all false
set_option maxRecDepth 100000
set_option maxHeartbeats 1000000
namespace DL
open PySem PySem.Spec PyProof.Rows L2
/-! ## sorted(dict), the keys pairs of ints -/
section
variable {prog : Program} {w : World} {A : Around} {E : Value → Shared → Prop} {s : Shared}
/-- what is collected, with the word that the heap has grown -/
theorem collect_up {r d : Addr} {n : Nat} {T : String} {Pi : Nat → Value → Prop} {OK : Heap → Prop} {R : List Value → Shared → Prop} (K : PySem.W.KdlSrc prog w T r d n Pi OK) (hh : A.handled = none) (hok : OK s.heap) (hn : n ≤ sizeLine)
    (h : ∀ (h1 : Heap) (t1 : Nat) (got : Array Value), s.heap.objs.size < h1.objs.size → (∀ b o, s.heap.get? b = some o → h1.get? b = some o) → ItemsOf Pi got n → R got.toList { s with heap := h1, toks := t1 }) : wpAny (model prog w) A (collect (.ref r)) R E s := by
  have small := K.there _ hok
  unfold collect
  refine wpAny_bind (wpAny_runValue (codeAny_builtin entry_proto_collect' ?_))
  rw [Around.under_plainId PySem.F.plain_proto_collect _]
  show wpAny _ A.in1 (newList [] >>= fun l => again (.builtin "list.__iadd__" ⟨[l, .ref r], []⟩)) _ _ s; refine wpAny_bind (wpAny_newObj_type (wpAny_pure ⟨plainId_quiet PySem.F.plain_list_iadd _, codeAny_builtin entry_list_iadd' ?_⟩))
  rw [Around.under_plainId PySem.F.plain_list_iadd _]
  have laid : (s.heap.push { cls := .type "list", data := .seq ([] : List Value).toArray }).get? s.heap.objs.size = some { cls := .type "list", data := .seq #[] } := Heap.get?_push_size _ rfl
  show wpAny _ A.in1 (Builtin.List.listExtendWith (.ref s.heap.objs.size) (.ref r) (.ref s.heap.objs.size)) _ _ _
  have run := PySem.W.kdl_extend (A := A) (s := { s with heap := s.heap.push { cls := .type "list", data := .seq ([] : List Value).toArray } })
    (R := fun (q : Result) (s1 : Shared) => ∃ (h1 : Heap) (t1 : Nat) (got : Array Value) (c1 : Nat), q = .ok (.ret (.ref s.heap.objs.size)) ∧ s1 = { s with heap := h1, toks := t1 } ∧ (∀ b o, s.heap.get? b = some o → h1.get? b = some o) ∧
      h1.get? s.heap.objs.size = some { cls := .type "list", dict := none, data := .seq got c1, slots := #[] } ∧ ItemsOf Pi got n)
    K hh (K.keep _ _ hok fun b _ o e => Heap.get?_push_of_some _ e) s.heap.objs.size (Nat.ne_of_gt small.1) (Nat.ne_of_gt small.2) (.ref s.heap.objs.size) 0 laid (fun h1 t1 got c1 kp e1 it => ⟨h1, t1, got, c1, rfl, rfl, fun b o e => kp b o (Nat.ne_of_lt (Heap.lt_size e)) (Heap.get?_push_of_some _ e), e1, it⟩) hn
  have last : ∀ (q : Result) (s2 : Shared), (∃ (h1 : Heap) (t1 : Nat) (got : Array Value) (c1 : Nat), q = .ok (.ret (.ref s.heap.objs.size)) ∧ s2 = { s with heap := h1, toks := t1 } ∧ (∀ b o, s.heap.get? b = some o → h1.get? b = some o) ∧
      h1.get? s.heap.objs.size = some { cls := .type "list", dict := none, data := .seq got c1, slots := #[] } ∧ ItemsOf Pi got n) → ∃ (h1 : Heap) (t1 : Nat) (got : Array Value) (c1 : Nat), q = .ok (.ret (.ref s.heap.objs.size)) ∧ s2 = { s with heap := h1, toks := t1 } ∧ h1.get? s.heap.objs.size = some { cls := .type "list", dict := none, data := .seq got c1, slots := #[] } ∧ R got.toList { s with heap := h1, toks := t1 } :=
    fun q s2 ⟨h1, t1, got, c1, e1, e2, kp, e3, it⟩ => ⟨h1, t1, got, c1, e1, e2, e3, h h1 t1 got (Heap.lt_size e3) kp it⟩
  refine wpAny_mono run (fun f s1 x => ?_) fun e s1 x => ?_
  · cases f with
    | done f =>
      obtain ⟨h1, t1, got, c1, e, rfl, e3, q⟩ := last _ _ x
      cases e
      show wpAny _ A (load s.heap.objs.size >>= _) _ _ _
      exact wpAny_bind (wpAny_load e3 (wpAny_pure q))
    | again c1 =>
      refine ⟨x.1, codeAny_mono x.2 fun q s2 y => ?_⟩
      obtain ⟨h1, t1, got, c2, rfl, rfl, e3, q⟩ := last _ _ y
      show wpAny _ A (load s.heap.objs.size >>= _) _ _ _
      exact wpAny_bind (wpAny_load e3 (wpAny_pure q))
  · obtain ⟨_, _, _, _, z, _⟩ := x
    cases z
theorem sorted_src {r d : Addr} {n : Nat} {T : String} {Pi : Nat → Value → Prop} {OK : Heap → Prop} {ltv : Value → Value → Bool} {Q : Value → Shared → Prop} (K : PySem.W.KdlSrc prog w T r d n Pi OK) (hh : A.handled = none) (hok : OK s.heap) (hn : n ≤ sizeLine) (O : SrtO.Swo ltv)
    (hS : ∀ acc : Array Value, ItemsOf Pi acc n → 2 ≤ acc.toList.length → ∀ (h₁ : Heap) (tk : Nat) (a : Addr), h₁.get? a = some (seqObj "list" acc.toList.toArray 0) → (∀ b o, s.heap.get? b = some o → b ≠ a ∧ h₁.get? b = some o) → SrtO.SortableO prog w A.in1.in1 { s with heap := h₁, toks := tk } a acc.toList ltv)
    (h : ∀ (acc : Array Value) (out : List Value) (h' : Heap) (tk : Nat) (a : Addr), ItemsOf Pi acc n → SrtO.Srtd ltv out → SrtO.Stb ltv out acc.toList → s.heap.objs.size ≤ a → (∀ b o, s.heap.get? b = some o → h'.get? b = some o) → (∃ m, h'.get? a = some (seqObj "list" out.toArray m)) → Q (.ref a) { s with heap := h', toks := tk }) :
    wpAny (model prog w) A (call (.builtin "sorted") [.ref r]) Q E s := by
  refine Calls.call_function_entry kind_sorted plain_sorted entry_sorted (args_sorted1 _) ?_
  unfold Builtin.«sorted»
  refine wpAny_bind (m := checkCount "sorted" 1 1 _) (wpAny_pure ?_)
  refine wpAny_bind (collect_up K hh hok hn fun h' tk acc up kp it => ?_)
  have lz : acc.toList.length ≤ sizeLine := by rw [Array.length_toList, it.1]; exact hn
  refine wpAny_bind (wpAny_newList ?_ lz)
  have here : (h'.push (seqObj "list" acc.toList.toArray 0)).get? h'.objs.size = some (seqObj "list" acc.toList.toArray 0) := Heap.get?_push_size _ rfl
  have le : s.heap.objs.size ≤ h'.objs.size := Nat.le_of_lt up
  show wpAny _ _ _ _ _ { s with heap := h'.push (seqObj "list" acc.toList.toArray 0), toks := tk }
  refine wpAny_bind (wpAny_holding (wpAny_call_entry slot_list_sort ⟨_, here, rfl⟩ entry_list_sort (SrtO.list_sort_ord O here lz (fun h2 => hS acc it h2 _ _ _ here fun b o e => ⟨Nat.ne_of_lt (Nat.lt_of_lt_of_le (Heap.lt_size e) le), Heap.get?_push_of_some _ (kp b o e)⟩) fun out hs hb => ⟨_, rfl, ?_⟩) (args_list_sort _)))
  obtain ⟨m, hm⟩ := PyProof.Rows.sortedHeap_at (vs := acc.toList) (out := out.toArray) here
  refine wpAny_pure ⟨_, rfl, h acc out _ _ _ it hs hb le (fun b o e => ?_) ⟨m, hm⟩⟩
  have lt := Nat.lt_of_lt_of_le (Heap.lt_size e) le
  have e2 : (h'.push (seqObj "list" acc.toList.toArray 0)).get? b = some o := Heap.get?_push_of_some _ (kp b o e)
  rw [PyProof.Rows.sortedHeap_old (Nat.ne_of_lt lt) (Heap.lt_size e2)]
  exact e2
end
/-- the keys of a dict, if all are pairs of ints -/
def pairK : D → Option (Int × Int)
  | .tuple [.int a, .int b] => some (a, b)
  | _ => none
def pairKs : List (D × D) → Option (List (Int × Int))
  | [] => some []
  | p :: r => match pairK p.1, pairKs r with
    | some q, some qs => some (q :: qs)
    | _, _ => none
def pairD (p : Int × Int) : D := .tuple [.int p.1, .int p.2]
def sortDW : O1 := fun ss P => match ss with
  | [s] => match dv s with
    | some kds => ∃ ps, pairKs kds = some ps ∧ ∀ qs : List (Int × Int), qs.Perm ps → qs.Pairwise (fun p q => SrtO.lexB q p = false) → P (.fr false (.list (qs.map pairD)))
    | none => False
  | _ => False
section
variable {X : Cx} {C : Cn} {pins : List (Addr × Obj)} {σ : L2.St} {H : Hp} {s : Shared}
def keyI (k : List Key) : Int × Int := match k with
  | [.inl a, .inl b] => (a, b)
  | _ => (0, 0)
theorem IsDT.keyI {K : PySem.W.Frag} {k : Bool} {G : Hp} : ∀ {kvs : List (List Key × V)} {kds : List (D × D)} {ps : List (Int × Int)}, IsDT K k G kvs kds → pairKs kds = some ps → kvs.map (fun kv => DL.keyI kv.1) = ps ∧ ∀ kv ∈ kvs, kv.1 = [.inl (DL.keyI kv.1).1, .inl (DL.keyI kv.1).2]
  | _, _, _, .nil, e => by cases e; exact ⟨rfl, fun _ h => nomatch h⟩
  | _, _, _, @IsDT.cons _ _ _ y v r d rd a b, e => by
    unfold pairKs at e
    split at e
    · rename_i q qs e1 e2
      cases e
      obtain ⟨h1, h2⟩ := b.keyI e2
      match y, e1 with
      | [.inl x, .inl z], e1 =>
        cases e1
        refine ⟨by rw [List.map_cons, h1]; rfl, fun kv hm => ?_⟩
        rcases List.mem_cons.mp hm with q | q
        · subst q; rfl
        · exact h2 kv q
    · cases e
theorem dcall_sortedD (xc : XC X C) : DCall X C (.builtin "sorted") sortDW := by
  intro pins s σ H vs us Q I rv h
  obtain ⟨G, ss, P, w, iv, h, kt⟩ := h
  unfold sortDW at h
  split at h
  · obtain ⟨v, ev, jv⟩ := iv.one
    subst ev
    split at h
    · rename_i kds e1
      obtain ⟨ps, eps, p⟩ := h
      obtain ⟨a, rfl, hd⟩ := dv_is e1 w jv
      obtain ⟨u, eu, rx⟩ := vals1 rv
      subst eu
      obtain rfl : u = Value.ref a := rx
      obtain ⟨kvs, hh, h2, z⟩ : ∃ kvs : List (List Key × V), (H a = some (.dT kvs) ∨ (kvs = [] ∧ Rd H a (.dK []))) ∧ IsDT C.K (flg _) G kvs kds ∧ kvs.length ≤ sizeLine := by
        rcases hd with ⟨kvs, q1, h2⟩ | ⟨kvs, h1, h2⟩
        · cases h2 with
          | nil => exact ⟨[], .inr ⟨rfl, q1⟩, .nil, Nat.zero_le _⟩
          | @cons y _ _ _ _ _ _ =>
            unfold pairKs at eps
            cases y <;> simp [kD, pairK] at eps
        · exact ⟨kvs, .inl h1, h2, (show ObjOk X.prog X.w H s.heap a (.dT kvs) from I.hok a _ h1).1⟩
      · obtain ⟨k1, k2⟩ := h2.keyI eps
        obtain ⟨hs, ks, pr, o, es, ep, ho, hx, hdt, he, _, hnd⟩ := dictH I hh
        have l1 : es.size = ks.length := size_of_entries he
        have l2 : kvs.length = ks.length := Paired.length pr
        let key : Value → Int × Int := fun v => match v with
          | .ref b => match H b with
            | some (.tup [.int x, .int y]) => (x, y)
            | _ => (0, 0)
          | _ => (0, 0)
        have isK : ∀ x ∈ ks, H x.2.1 = some (.tup [.int (keyI x.1).1, .int (keyI x.1).2]) ∧ key (.ref x.2.1) = keyI x.1 := by
          have main : ∀ {l : List (List Key × V)} {m : List (List Key × Addr × Value)}, KT H l m → (∀ kv ∈ l, kv.1 = [.inl (keyI kv.1).1, .inl (keyI kv.1).2]) → ∀ x ∈ m, H x.2.1 = some (.tup [.int (keyI x.1).1, .int (keyI x.1).2]) := by
            intro l m r
            induction r with
            | nil => intro _ x hx; cases hx
            | @cons p q _ _ a' _ ih =>
              intro hk x hx
              rcases List.mem_cons.mp hx with e | hx
              · subst e
                have e3 := a'.2.1
                have e4 := hk p List.mem_cons_self
                rw [a'.1] at e3 e4
                rw [e3]
                generalize keyI x.1 = t at e4
                rw [e4]; rfl
              · exact ih (fun kv hm => hk kv (List.mem_cons_of_mem _ hm)) x hx
          intro x hx
          have e := main pr k2 x hx
          refine ⟨e, ?_⟩
          show (match H x.2.1 with | some (.tup [.int x, .int y]) => (x, y) | _ => (0, 0)) = _
          rw [e]
        have src : ∀ acc : Array Value, ItemsOf (fun i v => ∃ en : DictEntry, es[i]? = some en ∧ v = en.key) acc es.size → acc.toList = ks.map fun x => Value.ref x.2.1 := by
          intro acc it
          apply List.ext_getElem?
          intro j
          rw [List.getElem?_map]
          have hlen : acc.toList.length = ks.length := by rw [Array.length_toList, it.1, l1]
          cases hj : acc.toList[j]? with
          | none =>
            have hge := List.getElem?_eq_none_iff.mp hj
            rw [List.getElem?_eq_none (by omega)]; rfl
          | some v =>
            obtain ⟨en, hen, hv⟩ := it.2 j v (by rw [← Array.getElem?_toList]; exact hj)
            have qe := entry_at he j
            rw [hen] at qe
            cases hb : ks[j]? with
            | none => rw [hb] at qe; cases qe
            | some b =>
              rw [hb] at qe
              have e2 : en = entryOfKey (tupleKind (mixKind X.prog X.w)) b := Option.some.inj qe
              rw [hv, e2]; rfl
        have tupK : ∀ x ∈ ks, ∀ h₁ : Heap, (∀ b o, s.heap.get? b = some o → h₁.get? b = some o) → Srt.IsPair h₁ (.ref x.2.1) (key (.ref x.2.1)).1 (key (.ref x.2.1)).2 := by
          intro x hx h₁ kk
          obtain ⟨e, e2⟩ := isK x hx
          rw [e2]
          obtain ⟨_, its2, r2, o2, ho2, hc2, n2, hd2⟩ := I.hok _ _ e
          obtain ⟨u1, u2, rfl, ri, rj⟩ := vals2 r2
          obtain ⟨t1, rfl⟩ := ri
          obtain ⟨t2, rfl⟩ := rj
          exact ⟨_, o2, t1, t2, n2, rfl, kk _ _ ho2, hc2, hd2⟩
        refine sorted_src (kdl_raw hs hx hdt) (I.ok.hd xc.calm) ho (by omega) (SrtO.swo_lex key) (fun acc it h2 h₁ tk a' ha' kk => ?_) fun acc out h' tk a' it h3 h4 le kp hm => ?_
        · have ea := src acc it
          refine SrtO.pairs_sortableO (s := { s with heap := h₁, toks := tk }) (by omega) (fun v hv => ?_) fun o e => ?_
          · rw [ea] at hv
            obtain ⟨x, hx, rfl⟩ := List.mem_map.mp hv
            exact tupK x hx h₁ fun b o e => (kk b o e).2
          · have e' : some o = some (seqObj "list" acc.toList.toArray 0) := e.symm.trans ha'
            cases e'
            intro c
            exact absurd (Value.type.inj c) (by decide)
        · have ea := src acc it
          have hn := I.hok.fresh le
          obtain ⟨m, hm⟩ := hm
          have inK : ∀ v ∈ out, ∃ x ∈ ks, v = Value.ref x.2.1 := fun v hv => by
            have := h4.perm.mem_iff.mp hv
            rw [ea] at this
            obtain ⟨x, hx, rfl⟩ := List.mem_map.mp this
            exact ⟨x, hx, rfl⟩
          let adr : Value → Addr := fun v => match v with
            | .ref b => b
            | _ => 0
          have eo : out = (out.map adr).map Value.ref := by
            rw [List.map_map]
            refine (List.map_id out).symm.trans (List.map_congr_left fun v hv => ?_)
            obtain ⟨x, _, rfl⟩ := inK v hv
            rfl
          obtain ⟨G2, S, hG⟩ := Step.frzTs w (out.map fun v => (adr v, [V.int (key v).1, V.int (key v).2])) (fun q hq => by
            obtain ⟨v, hv, rfl⟩ := List.mem_map.mp hq
            obtain ⟨x, hx, rfl⟩ := inK v hv
            obtain ⟨e, e2⟩ := isK x hx
            rw [e2]
            exact e)
          have vo : Vals ((out.map adr).map V.ref) out := (congrArg (Vals ((out.map adr).map V.ref)) eo).mpr (vals_refs (out.map adr))
          have lo : out.length = ks.length := by rw [h4.perm.length_eq, ea, List.length_map]
          have hl : ((out.map adr).map V.ref).length ≤ sizeLine := by rw [List.length_map, List.length_map]; omega
          have hI : Inv X pins σ (upd H a' (.lst ((out.map adr).map V.ref))) { s with heap := h', toks := tk } := I.laid (t' := tk) kp le ⟨hl, out, m, vo, hm⟩
          refine ⟨.ref a', _, hI, rfl, ?_⟩
          have pq : (out.map key).Perm ps := by
            have h5 := h4.perm.map key
            rw [ea, List.map_map] at h5
            have e5 : ks.map (key ∘ fun x => Value.ref x.2.1) = ps := by
              rw [← k1]
              have : ∀ {l : List (List Key × V)} {mm : List (List Key × Addr × Value)}, KT H l mm → (∀ x ∈ mm, key (.ref x.2.1) = keyI x.1) → mm.map (key ∘ fun x => Value.ref x.2.1) = l.map fun kv => keyI kv.1 := by
                intro l mm r
                induction r with
                | nil => intro _; rfl
                | @cons p q _ _ a' _ ih =>
                  intro hk
                  rw [List.map_cons, List.map_cons, ih fun x hx => hk x (List.mem_cons_of_mem _ hx)]
                  show key (.ref q.2.1) :: _ = _
                  rw [hk q List.mem_cons_self, a'.1]
              exact this pr fun x hx => (isK x hx).2
            rw [e5] at h5
            exact h5
          have pw : (out.map key).Pairwise (fun p q => SrtO.lexB q p = false) := List.pairwise_map.mpr h3
          have hi : IsL C.K false G2 ((out.map adr).map V.ref) ((out.map key).map pairD) := by
            have main : ∀ l : List Value, (∀ v ∈ l, G2 (adr v) = some (.tup [V.int (key v).1, V.int (key v).2])) → IsL C.K false G2 ((l.map adr).map V.ref) ((l.map key).map pairD) := by
              intro l
              induction l with
              | nil => intro _; exact .nil
              | cons v l ih =>
                intro hl
                exact .cons (.tup (hl v List.mem_cons_self) (by show 2 ≤ sizeLine; rw [sizeLine_eq]; decide) (.cons (.int _) (.cons (.int _) .nil))) (ih fun v hv => hl v (List.mem_cons_of_mem _ hv))
            exact main out fun v hv => hG (adr v, _) (List.mem_map.mpr ⟨v, hv, rfl⟩)
          have A2 := StepN.alloc (o := .lst ((out.map adr).map V.ref)) S.ok hn
          have SN : StepN C.toBs 0 G H G2 H := ⟨S, Gr.refl⟩
          exact kt _ _ G2 _ (p (out.map key) pq pw) (SN.trans A2) ⟨⟨a', rfl, w.notHid (fr0_none hn), S.ok.noG hn, _, upd_same, hl, hi⟩, fun _ _ _ q e => by cases e; exact fr0_none hn⟩
    · exact h.elim
  · exact h.elim
end
end DL
set_option Elab.async false
set_option linter.all false
set_option maxRecDepth 100000
set_option maxHeartbeats 1000000
namespace DL
open PySem PySem.Spec PyProof.Rows L2
/-! ## the law's own state of drawn numbers -/
section
variable {X : Cx} {C : Cn} {pos p p2 p3 : Pos} {x : Str} {j : Nat} {G H : Hp} {ρ : Env} {σ : L2.St}
def stW (s : SV) (P : Prop) : Prop := match s with
  | .st => P
  | _ => False
def isI (s : SV) (P : Int → Prop) : Prop := match s with
  | .d _ (.int z) => P z
  | _ => False
theorem isI_is {s : SV} {P : Int → Prop} (h : isI s P) : ∃ k z, s = .d k (.int z) ∧ P z := by
  unfold isI at h
  split at h
  · exact ⟨_, _, rfl, h⟩
  · exact h.elim
theorem shaped_ints : ∀ ns : List Int, SeqAt.shaped (.list (ns.map PyData.int)) = true := by
  have h1 : ∀ ns : List Int, PyData.canLayAll0 (ns.map PyData.int) = true := by
    intro ns
    induction ns with
    | nil => rfl
    | cons n r ih => rw [List.map_cons]; simpa [PyData.canLayAll0, PyData.canLay0] using ih
  have h2 : ∀ ns : List Int, PyData.depthAll (ns.map PyData.int) ≤ 1 := by
    intro ns
    induction ns with
    | nil => simp [PyData.depthAll]
    | cons n r ih => rw [List.map_cons]; simp only [PyData.depthAll, PyData.depth]; omega
  intro ns
  have a := h1 ns
  have b := h2 ns
  simp only [SeqAt.shaped, PyData.canLay0, PyData.depth, Bool.and_eq_true, decide_eq_true_eq]
  exact ⟨a, decide_eq_true (by omega)⟩
theorem dp_ints {K : PySem.W.Frag} {H : Hp} : ∀ ns : List Int, DpAll K H (ns.map V.int) (ns.map PyData.int)
  | [] => .nil
  | n :: r => .cons (.int n) (dp_ints r)
theorem stW_is {s : SV} {P : Prop} (h : stW s P) : s = .st ∧ P := by
  cases s with
  | st => exact ⟨rfl, h⟩
  | _ => exact h.elim
/-- the state's four parts, as they stand -/
structure StIs (K : PySem.W.Frag) (G H : Hp) (a g : Addr) (great cells : List Int) (rest turn : Int) (c : Addr) : Prop where
  d : H a = some (.dK [(.inr "great", .ref g), (.inr "cells", .ref c), (.inr "rest", .int rest), (.inr "turn", .int turn)])
  g : H g = some (.lst (great.map V.int))
  c : SqL K G c (cells.map V.int)
  bg : ∀ x ∈ great, 0 ≤ x ∧ x < 2 ^ bigN
  bc : ∀ x ∈ cells, 0 ≤ x ∧ x < 2 ^ bigN
  br : 0 ≤ rest ∧ rest < 2 ^ bigN
  bt : 0 ≤ turn
  len : great.length ≤ 1000
  lec : cells.length ≤ 1000
theorem StIs.ok {K : PySem.W.Frag} {a g c : Addr} {great cells : List Int} {rest turn : Int} (h : StIs K G H a g great cells rest turn c) : StOk K G H a g := ⟨_, _, _, _, c, h.d, h.g, h.c, h.bg, h.bc, h.br, h.bt, h.len, h.lec⟩
theorem StIs.of {K : PySem.W.Frag} {a g : Addr} (h : StOk K G H a g) : ∃ great cells rest turn c, StIs K G H a g great cells rest turn c := by
  obtain ⟨great, cells, rest, turn, c, h1, h2, h3, h4, h5, h6, h7, h8, h9⟩ := h.ex
  exact ⟨great, cells, rest, turn, c, h1, h2, h3, h4, h5, h6, h7, h8, h9⟩
theorem st_at (R : Rel C G ρ σ H) {i : Nat} (e : ρ[i]? = some (some .st)) : ∃ a g great cells rest turn c, C.st = some (a, g) ∧ a ≠ g ∧ σ[i]? = some (some (.ref a)) ∧ StIs C.K G H a g great cells rest turn c := by
  obtain ⟨v, e1, ⟨a, g, q, rfl⟩, _⟩ := R.get e
  obtain ⟨n, ok⟩ := R.ok.st a g q
  obtain ⟨great, cells, rest, turn, c, S⟩ := StIs.of ok
  exact ⟨a, g, great, cells, rest, turn, c, q, n, e1, S⟩
theorem un1 (xc : XC X C) : X.A.units + 1 < cLine := by
  obtain ⟨k, r⟩ := xc.room
  have := r.un
  omega
/-- the state after a change of its dict: everything else stands -/
theorem Step.stPut {B : Bs} {a g c : Addr} {great cells : List Int} {rest turn rest' turn' : Int} (w : WOk B G H) (e : B.st = some (a, g)) (S : StIs B.K G H a g great cells rest turn c) (br : 0 ≤ rest' ∧ rest' < 2 ^ bigN) (bt : 0 ≤ turn') :
    Step B G H G (upd H a (.dK [(.inr "great", .ref g), (.inr "cells", .ref c), (.inr "rest", .int rest'), (.inr "turn", .int turn')])) := by
  have ha : hid B a := ⟨a, g, e, .inl rfl⟩
  have ng := (w.st a g e).1
  have key : ∀ b o, H b = some o → b ≠ a → upd H a (.dK [(.inr "great", .ref g), (.inr "cells", .ref c), (.inr "rest", .int rest'), (.inr "turn", .int turn')]) b = some o := fun b o h n => by rw [upd_ne n]; exact h
  refine ⟨Same.refl _, w, ⟨fun b o h => key b o (w.sub _ _ h) fun z => ?_, w.hidG, fun a2 g2 e2 => ?_, fun q hq => ?_, w.gt⟩, fun b o h n _ => key b o h fun z => n (by rw [z]; exact ha), fun _ h => .inl h⟩
  · rw [z, w.hidG a ha] at h; cases h
  · rw [e] at e2; cases e2
    exact ⟨ng, (StIs.mk upd_same (key _ _ S.g (Ne.symm ng)) S.c S.bg S.bc br bt S.len S.lec : StIs B.K G _ a g great cells rest' turn' c).ok⟩
  · obtain ⟨ps, h1, h2, h3⟩ := w.tab q hq
    refine ⟨ps, key _ _ h1 fun z => ?_, h2, fun pos cv hc => ?_⟩
    · rw [z, S.d] at h1; cases h1
    · obtain ⟨c', e1, e2⟩ := h3 pos cv hc
      refine ⟨c', e1, key _ _ e2 fun z => ?_⟩
      rw [z, S.d] at e2; cases e2
theorem StepN.stPut {B : Bs} {a g c : Addr} {n : Nat} {great cells : List Int} {rest turn rest' turn' : Int} (w : WOk B G H) (e : B.st = some (a, g)) (S : StIs B.K G H a g great cells rest turn c) (br : 0 ≤ rest' ∧ rest' < 2 ^ bigN) (bt : 0 ≤ turn') (hn : turn' ≤ turn + n) :
    StepN B n G H G (upd H a (.dK [(.inr "great", .ref g), (.inr "cells", .ref c), (.inr "rest", .int rest'), (.inr "turn", .int turn')])) := by
  refine ⟨Step.stPut w e S br bt, fun a2 g2 t t' e2 h1 h2 => ?_⟩
  rw [e] at e2
  cases e2
  have q1 := h1.uniq ⟨g, c, rest, S.d⟩
  have q2 := h2.uniq ⟨g, c, rest', upd_same⟩
  omega
/-- the great numbers lose their first one -/
theorem Step.stPop {B : Bs} {a g c : Addr} {z : Int} {great cells : List Int} {rest turn : Int} (w : WOk B G H) (e : B.st = some (a, g)) (S : StIs B.K G H a g (z :: great) cells rest turn c) : Step B G H G (upd H g (.lst (great.map V.int))) := by
  have hg : hid B g := ⟨a, g, e, .inr rfl⟩
  have ng := (w.st a g e).1
  have key : ∀ b o, H b = some o → b ≠ g → upd H g (.lst (great.map V.int)) b = some o := fun b o h n => by rw [upd_ne n]; exact h
  refine ⟨Same.refl _, w, ⟨fun b o h => key b o (w.sub _ _ h) fun z => ?_, w.hidG, fun a2 g2 e2 => ?_, fun q hq => ?_, w.gt⟩, fun b o h n _ => key b o h fun z => n (by rw [z]; exact hg), fun _ h => .inl h⟩
  · rw [z, w.hidG g hg] at h; cases h
  · rw [e] at e2; cases e2
    exact ⟨ng, (StIs.mk (key _ _ S.d ng) upd_same S.c (fun x m => S.bg x (List.mem_cons_of_mem _ m)) S.bc S.br S.bt (Nat.le_of_succ_le S.len) S.lec : StIs B.K G _ a g great cells rest turn c).ok⟩
  · obtain ⟨ps, h1, h2, h3⟩ := w.tab q hq
    refine ⟨ps, key _ _ h1 fun z => ?_, h2, fun pos cv hc => ?_⟩
    · rw [z, S.g] at h1; cases h1
    · obtain ⟨c', e1, e2⟩ := h3 pos cv hc
      refine ⟨c', e1, key _ _ e2 fun z => ?_⟩
      rw [z, S.g] at e2; cases e2
theorem StepN.stPop {B : Bs} {a g c : Addr} {z : Int} {great cells : List Int} {rest turn : Int} (w : WOk B G H) (e : B.st = some (a, g)) (S : StIs B.K G H a g (z :: great) cells rest turn c) : StepN B 0 G H G (upd H g (.lst (great.map V.int))) := by
  refine ⟨Step.stPop w e S, fun a2 g2 t t' e2 h1 h2 => ?_⟩
  rw [e] at e2
  cases e2
  have ng := (w.st _ _ e).1
  have q1 := h1.uniq ⟨g, c, rest, S.d⟩
  have q2 := h2.uniq ⟨g, c, rest, by rw [upd_ne ng]; exact S.d⟩
  omega
abbrev stE (x : Str) (p : Pos) (k : Str) (j : Nat) (p2 pos : Pos) : Expr := .Subscript (.Name x p) (.Constant (.str k) j p2) pos
abbrev NameOk (X : Cx) (i : Nat) (x : Str) : Prop := X.N[i]? = some x ∧ Vis X.env.scope x ∧ (x == ("__debug__" : Str)) = false ∧ (x == ("__classdict__" : Str)) = false
theorem pe_stE {k : Str} (xc : XC X C) (i : Nat) (n : NameOk X i x) : PE X (stE x p k j p2 pos) (tDGet (tVar i) (tC (.str k))) := pe_dget (un1 xc) (pe_var n.1 n.2.1 n.2.2.1 n.2.2.2) pe_str (by intro _ _; rfl)
theorem de_stRest (xc : XC X C) (i : Nat) (n : NameOk X i x := by exact ⟨rfl, .inl rfl, by decide, by decide⟩) : DE X C 0 (stE x p "rest" j p2 pos) (fun ρ P _ => getE ρ i fun s => stW s (∀ r : Int, 0 ≤ r → r < 2 ^ bigN → P (.d false (.int r)))) := by
  refine PE.imp (pe_stE xc i n) ?_
  rintro σ H Q ⟨G, ρ, P, R, h, kt⟩
  obtain ⟨s, e, h⟩ := getE_some h
  obtain ⟨rfl, h⟩ := stW_is h
  obtain ⟨a, g, great, cells, rest, turn, c, q, na, ea, S⟩ := st_at R.toRel e
  exact ⟨_, ea, a, .int rest, rfl, DGet.k (k := .inr "rest") S.d, kt _ _ G H (h rest S.br.1 S.br.2) (StepN.refl R.ok) (.d (.int _))⟩
theorem itListS {vs : List V} {ds : List D} {k : Bool} {a : Addr} (h : SqL C.K G a vs) (hl : vs.length ≤ sizeLine) (i : IsL C.K k G vs ds) : ItOk C G (ds.map (.d k)) (Itl C.K a) where
  len := by rw [List.length_map, ← i.length]; exact hl
  keep := fun s hs => by
    obtain ⟨d, _, rfl⟩ := List.mem_map.mp hs
    exact ⟨fun _ _ => SV.noConfusion, fun _ _ => SV.noConfusion⟩
  go := fun G' H j sm w hj => by
    rw [List.length_map] at hj
    obtain ⟨u, e, _⟩ := i.get (List.getElem?_eq_getElem hj)
    exact ⟨vs, u, SqL.same (sm.trans w.sub) h, e⟩
  yld := fun G' H j x H' s sm w hs y => by
    obtain ⟨rfl, y⟩ := y
    have e := y vs (SqL.same (sm.trans w.sub) h)
    obtain ⟨d, ed, id⟩ := i.get' e
    rw [List.getElem?_map, ed] at hs
    cases hs
    exact ⟨G', StepN.refl w, Is.mono sm id⟩
  stop := fun G' H sm w => ⟨vs, SqL.same (sm.trans w.sub) h, by rw [List.length_map, i.length]; exact Nat.le_refl _⟩
/-- state['cells'], walked -/
theorem di_stCells {tg : Expr} (xc : XC X C) (i : Nat) (n : NameOk X i x := by exact ⟨rfl, .inl rfl, by decide, by decide⟩) : DI X C 0 tg (stE x p "cells" j p2 pos) (fun ρ P _ => getE ρ i fun s => stW s (∀ cells : List Int, cells.length ≤ 1000 → (∀ z ∈ cells, 0 ≤ z ∧ z < 2 ^ bigN) → P (cells.map fun z => .d false (.int z)))) := by
  refine ⟨_, pi_list (pe_stE xc i n), ?_⟩
  rintro σ H Rr ⟨G, ρ, P, R, h, kt⟩
  obtain ⟨s, e, h⟩ := getE_some h
  obtain ⟨rfl, h⟩ := stW_is h
  obtain ⟨a, g, great, cells, rest, turn, c, q, na, ea, S⟩ := st_at R.toRel e
  refine ⟨_, ea, a, .ref c, rfl, DGet.k (k := .inr "cells") S.d, c, rfl, ⟨_, by rw [xc.K]; exact SqL.same R.ok.sub S.c⟩, ?_⟩
  refine kt (cells.map fun z => .d false (.int z)) G H _ (h cells S.lec S.bc) (StepN.refl R.ok) ?_
  have it := itListS (C := C) (ds := cells.map PyData.int) (k := false) S.c (by rw [List.length_map]; exact small_line S.lec) (IsL.ints cells)
  rw [List.map_map] at it
  rw [xc.K]
  exact it
/-- state['rest'] = e -/
theorem ds_stRest {c1 : Nat} {e : Expr} {fe : W1} (xc : XC X C) (i : Nat) (he : DE X C c1 e fe) (n : NameOk X i x := by exact ⟨rfl, .inl rfl, by decide, by decide⟩) (hs : swapsWith e (some (stE x p "rest" j p2 p3)) pos.line X.env = pure false := by rfl) :
    DS X C c1 (.Assign [stE x p "rest" j p2 p3] e pos) (fun ρ N E => fe ρ (fun v => getE ρ i fun s => stW s (isI v fun z => (0 ≤ z ∧ z < 2 ^ bigN) ∧ N.nx ρ)) E) := by
  refine PS.imp (ps_dput (un1 xc) (pe_var n.1 n.2.1 n.2.2.1 n.2.2.2) pe_str he hs) ?_
  rintro D σ H ⟨G, ρ, N, R, h, ok⟩
  refine ⟨G, ρ, _, R, h, fun s v G' H' q S V => ?_⟩
  obtain ⟨s2, e2, q⟩ := getE_some q
  obtain ⟨rfl, q⟩ := stW_is q
  obtain ⟨kz, z, rfl, q⟩ := isI_is q
  · obtain ⟨V, _⟩ := V
    cases V
    have R' := R.toRel.step S.toStep
    obtain ⟨a, g, great, cells, rest, turn, c, q1, na, ea, St⟩ := st_at R' e2
    have S2 := StepN.stPut (n := 0) (turn' := turn) R'.ok q1 St q.1 St.bt (by omega)
    exact ⟨_, ea, a, _, rfl, DPut.k (k := .inr "rest") (v := .int z) St.d (by rw [sizeLine_eq]; exact (by decide : 4 < 16777216)), ok.nx G' ρ σ _ S.sub (S.gr.trans S.ok S2.gr) q.2 (R'.step S2.toStep)⟩
/-- turn, found = state['turn'] + 1, 0; state['turn'] = turn -/
theorem dss_mix {rest : List Stmt} {f : WS} {c1 : Nat} {y z : Str} {k1 k2 j1 j2 j3 j4 : Nat} {p1 p4 p5 p6 p7 p8 p9 pa pb pc pd pe' pf : Pos} (xc : XC X C) (i j k : Nat) (hN : X.N.Nodup) (n : NameOk X i x) (hj : X.N[j]? = some y) (hk : X.N[k]? = some z) (hjk : j ≠ k) (hij : i ≠ j) (hik : i ≠ k) (ny : NameOk X j y)
    (hy : X.env.scope.names.lookup y = some .local) (hz : X.env.scope.names.lookup z = some .local) (h : DSs X C c1 rest f)
    (hw : swappedStores [.Tuple [.Name y p1, .Name z p4] k1 p5] (.Tuple [.BinOp (stE x p "turn" j1 p2 p3) .Add (.Constant (.int 1) j2 p6) p7, .Constant (.int 0) j3 p8] k2 p9) X.env = pure (some [y, z]))
    (hs : swapsWithSole [.Tuple [.Name y p1, .Name z p4] k1 p5] (.Tuple [.BinOp (stE x p "turn" j1 p2 p3) .Add (.Constant (.int 1) j2 p6) p7, .Constant (.int 0) j3 p8] k2 p9) pa.line X.env = pure false)
    (hs2 : swapsWith (.Name y pb) (some (stE x pc "turn" j4 pd pe')) pf.line X.env = pure false)
    (h1 : starEach [.BinOp (stE x p "turn" j1 p2 p3) .Add (.Constant (.int 1) j2 p6) p7, .Constant (.int 0) j3 p8] X.env = (false, eval (.BinOp (stE x p "turn" j1 p2 p3) .Add (.Constant (.int 1) j2 p6) p7) X.env) :: starEach [.Constant (.int 0) j3 p8] X.env)
    (h2 : starEach [.Constant (.int 0) j3 p8] X.env = (false, eval (.Constant (.int 0) j3 p8) X.env) :: starEach [] X.env) :
    DSs X C (1 + c1) (.Assign [.Tuple [.Name y p1, .Name z p4] k1 p5] (.Tuple [.BinOp (stE x p "turn" j1 p2 p3) .Add (.Constant (.int 1) j2 p6) p7, .Constant (.int 0) j3 p8] k2 p9) pa :: .Assign [stE x pc "turn" j4 pd pe'] (.Name y pb) pf :: rest)
      (fun ρ N E => getE ρ i fun s => stW s (j < ρ.length ∧ ∀ t : Int, 0 ≤ t → t + 1 ≤ capT → f ((ρ.set j (some (.d false (.int (t + 1))))).set k (some (.d false (.int 0)))) N E)) := by
  refine PSs.imp (pss_cons (ps_par xc.calm hN hj hk hjk hy hz (pa_cons (pe_op op_add (pe_stE xc i n) pe_int) (pa_cons pe_int pa_nil h2) h1) hw hs) (pss_cons (ps_dput (un1 xc) (pe_var n.1 n.2.1 n.2.2.1 n.2.2.2) pe_str (pe_var ny.1 ny.2.1 ny.2.2.1 ny.2.2.2) hs2) h)) ?_
  rintro D σ H ⟨G, ρ, N, R, hf, ok⟩
  obtain ⟨s, e2, hf⟩ := getE_some hf
  obtain ⟨rfl, hf⟩ := stW_is hf
  obtain ⟨a, g, great, cells, rest', turn, c, q1, na, ea, St⟩ := st_at R.toRel e2
  have cap := R.capNow a g turn q1 ⟨g, c, rest', St.d⟩
  have hl : i < σ.length := (List.getElem?_eq_some_iff.mp ea).1
  obtain ⟨hlj, hf⟩ := hf
  rw [← R.len] at hlj
  have R2 := (R.toRel.set (i := j) (s := .d false (.int (turn + 1))) (v := .int (turn + 1)) (.int _) (fun _ _ => SV.noConfusion) fun _ _ => SV.noConfusion).set (i := k) (s := .d false (.int 0)) (v := .int 0) (.int _) (fun _ _ => SV.noConfusion) fun _ _ => SV.noConfusion
  refine ⟨_, ea, a, .int turn, rfl, DGet.k (k := .inr "turn") St.d, turn, 1, rfl, rfl, .int (turn + 1), .int 0, rfl, ?_⟩
  have ei : ((σ.set j (some (.int (turn + 1)))).set k (some (V.int 0)))[i]? = some (some (.ref a)) := by rw [List.getElem?_set_ne (Ne.symm hik), List.getElem?_set_ne (Ne.symm hij)]; exact ea
  have ej : ((σ.set j (some (.int (turn + 1)))).set k (some (V.int 0)))[j]? = some (some (.int (turn + 1))) := by rw [List.getElem?_set_ne (Ne.symm hjk), List.getElem?_set_self hlj]
  have bt := St.bt
  have S2 := StepN.stPut (n := 1) (rest' := rest') (turn' := turn + 1) R2.ok q1 St St.br (by omega) (by omega)
  refine ⟨_, ej, _, ei, a, _, rfl, DPut.k (k := .inr "turn") (v := .int (turn + 1)) St.d (by rw [sizeLine_eq]; exact (by decide : 4 < 16777216)), ?_⟩
  have RN := RelN.next (n := 1) (m := c1) (R.at R2) S2
  exact ⟨G, _, N, RN, hf turn bt (by omega), (ok.up S2)⟩
/-- state['great'].pop(0) if state['great'] != [] else e -/
theorem de_stNext {c1 : Nat} {e : Expr} {fe : W1} {pa pb pc pd pf pg ph pi : Pos} {j1 j2 : Nat} (xc : XC X C) (i : Nat) (he : DE X C c1 e fe) (n : NameOk X i x := by exact ⟨rfl, .inl rfl, by decide, by decide⟩) 
    (hb : ∀ {r : V → List V → Hp → VK → Prop} {t : TA}, MtR X "list.pop" r → PA X [.Constant (.int 0) j2 pf] t → PE X (.Call (.Attribute (stE x p "great" j p2 p3) "pop" pa) [.Constant (.int 0) j2 pf] [] pb) (tBM X.K "list" r (tDGet (tVar i) (tC (.str "great"))) t))
    (hs1 : starEach [.Constant (.int 0) j2 pf] X.env = (false, eval (.Constant (.int 0) j2 pf) X.env) :: starEach [] X.env := by rfl)
    (hm : behindInMarks .NotEq (.List [] pi) = false := by first | exact nomark _ | rfl | with_unfolding_all rfl) :
    DE X C c1 (.IfExp (.Compare (stE x pc "great" j1 pd pg) [.NotEq] [.List [] pi] ph) (.Call (.Attribute (stE x p "great" j p2 p3) "pop" pa) [.Constant (.int 0) j2 pf] [] pb) e pos)
      (fun ρ P E => getE ρ i fun s => stW s ((∀ r : Int, 0 ≤ r → r < 2 ^ bigN → P (.d false (.int r))) ∧ fe ρ P E)) := by
  have hu : X.A.units + 64 < cLine := by
    obtain ⟨k, r⟩ := xc.room
    have := r.un
    omega
  refine PE.imp (pe_ifExp (pt_cmpR (op_neD hu) (pe_stE xc i n) (pe_lst pa_nil) hm) (hb mt_popAt (pa_cons pe_int pa_nil hs1)) he) ?_
  rintro σ H Q ⟨G, ρ, P, R, h, kt⟩
  obtain ⟨s, e2, h⟩ := getE_some h
  obtain ⟨rfl, h1, h2⟩ := stW_is h
  obtain ⟨a, g, great, cells, rest, turn, c, q, na, ea, St⟩ := st_at R.toRel e2
  refine ⟨_, ea, a, .ref g, rfl, DGet.k (k := .inr "great") St.d, Nat.zero_le _, fun p hp => ?_⟩
  have Sa := StepN.alloc (o := HO.lst []) R.ok hp
  have ap : a ≠ p := fun z => by have z2 := St.d; rw [z, hp] at z2; cases z2
  have gp : g ≠ p := fun z => by have z2 := St.g; rw [z, hp] at z2; cases z2
  have St1 : StIs C.K G (upd H p (.lst [])) a g great cells rest turn c := { St with d := by rw [upd_ne ap]; exact St.d, g := by rw [upd_ne gp]; exact St.g }
  refine ⟨.list (great.map PyData.int), .list [], .lst (SqL.of (by rw [upd_ne gp]; exact St.g)) (dp_ints _), .lst (SqL.of upd_same) .nil, shaped_ints _, shaped_ints [], _, rfl, ?_⟩
  cases great with
  | nil => exact ⟨G, ρ, P, RelN.next (n := 0) (m := c1) (by rw [Nat.zero_add]; exact R) Sa, h2, fun sv v G2 H2 p2 S2 V2 => kt sv v G2 H2 p2 ((Sa.trans S2).le (by omega)) (V2.lower Sa)⟩
  | cons z r =>
    have hz := St.bg z List.mem_cons_self
    refine ⟨_, ea, a, .ref g, rfl, DGet.k (k := .inr "great") St1.d, .inl ⟨rfl, _, SqL.of St1.g⟩, g, _, 0, 0, .int z, rfl, rfl, St1.g, by decide, by decide, by simp [seqIndex?], rfl, ?_⟩
    exact kt _ _ G _ (h1 z hz.1 hz.2) ((Sa.trans (StepN.stPop Sa.ok q St1)).le (by omega)) (.d (.int z))
end
end DL
set_option Elab.async false
set_option linter.all false
set_option maxRecDepth 100000
set_option maxHeartbeats 1000000
namespace DL
open PySem PySem.Spec PyProof.Rows L2
section
variable {X : Cx} {C : Cn} {pos p : Pos} {x : Str}
/-- // by a positive number of any size that matters -/
def fdivXW : O2 := arW CDivW fun i j => i / j
theorem dop_fdivX : DOp X C (binaryOp .FloorDiv) fdivXW := dop_ar op_fdivW
/-- a power of any base that the model takes -/
def CPowX (i j : Int) : Prop := 0 ≤ j ∧ (Builtin.Int.intBits i : Int) * j ≤ 2 ^ 27
theorem op_powX : OpR X (binaryOp .Pow) (rI CPowX fun i j => .int (i ^ j.toNat)) := opI fun _ _ _ _ _ _ _ hc q => pow_int hc.1 hc.2 q
def powXW : O2 := arW CPowX fun i j => i ^ j.toNat
theorem dop_powX : DOp X C (binaryOp .Pow) powXW := dop_ar op_powX
/-! ## the script -/
def scrW (s : SV) (P : List Int → Prop) : Prop := match s with
  | .scr ns => P ns
  | _ => False
theorem scrW_is {s : SV} {P : List Int → Prop} (h : scrW s P) : ∃ ns, s = .scr ns ∧ P ns := by
  cases s with
  | scr ns => exact ⟨ns, rfl, h⟩
  | _ => exact h.elim
theorem di_scr {tg : Expr} (xc : XC X C) (i : Nat) (n : NameOk X i x := by exact ⟨rfl, .inl rfl, by decide, by decide⟩) : DI X C 0 tg (.Name x p) (fun ρ P _ => getE ρ i fun s => scrW s fun ns => P (ns.map fun z => .d false (.int z))) := by
  refine ⟨_, pi_list (pe_var n.1 n.2.1 n.2.2.1 n.2.2.2), ?_⟩
  rintro σ H Rr ⟨G, ρ, P, R, h, kt⟩
  obtain ⟨s, e, h⟩ := getE_some h
  obtain ⟨ns, rfl, h⟩ := scrW_is h
  obtain ⟨v, e1, q, _⟩ := R.get e
  have q : ScrO C.K G v ns := q
  obtain ⟨a, rfl, sq⟩ := q.ex
  refine ⟨_, e1, a, rfl, ⟨_, by rw [xc.K]; exact SqL.same R.ok.sub sq⟩, ?_⟩
  refine kt (ns.map fun z => .d false (.int z)) G H _ h (StepN.refl R.ok) ?_
  have it := itListS (C := C) (ds := ns.map PyData.int) (k := false) sq (by rw [List.length_map]; exact small_line q.len) (IsL.ints ns)
  rw [List.map_map] at it
  rw [xc.K]
  exact it
def lenSW : O1 := fun ss P => match ss with
  | [s] => scrW s fun ns => P (.d false (.int ns.length))
  | _ => False
theorem dcall_lenS (xc : XC X C) : DCall X C (.builtin "len") lenSW := by
  intro pins s σ H vs us Q I rv h
  obtain ⟨G, ss, P, w, iv, h, kt⟩ := h
  unfold lenSW at h
  split at h
  · obtain ⟨v, ev, jv⟩ := iv.one
    subst ev
    obtain ⟨ns, rfl, h⟩ := scrW_is h
    have jv : ScrO C.K G v ns := jv
    obtain ⟨a, rfl, sq⟩ := jv.ex
    have o := call_len_seq (X := X)
    refine o pins s σ H _ us Q I rv ⟨a, _, rfl, .inl (by rw [xc.K]; exact SqL.same w.sub sq), ?_⟩
    rw [List.length_map]
    exact rD_ret w kt h (.int _)
  · exact h.elim
def bigS : Nat := 1048576
/-- what the first def of a law's text promises -/
def BegunS (K : PySem.W.Frag) (mg : Str → Option Value) : Sp := fun vs H Q E => ∃ (B : Bs) (G : Hp) (v : V) (ns : List Int), B.K = K ∧ B.mg = mg ∧ B.st = none ∧ vs = [v] ∧ WOk B G H ∧ ScrO K G v ns ∧ (∀ n ∈ ns, -(2 ^ bigS) < n ∧ n < 2 ^ bigS) ∧
  ∀ (a g c : Addr) (great cells : List Int) (G' H' : Hp), Step B G H G' H' → StIs K G' H' a g great cells 0 0 c → a ≠ g → G' a = none → G' g = none → fr0 H a → fr0 H g → Q (.ref a) H'
end
end DL
set_option Elab.async false
set_option linter.all false
set_option maxRecDepth 100000
set_option maxHeartbeats 1000000
namespace DL
open PySem PySem.Spec PyProof.Rows L2
def begC : W1 := fun ρ P E => getE ρ 0 (fun s => scrW s fun ns => compW (fun s ρ' N' => N' (ρ'.set 2 (some s))) (fun _ P' _ => P' true) (fun ρ P E => getE ρ 2 fun s => absW [s] P) (ns.map fun z => SV.d false (.int z)) (wipeE ρ [2]) false [] P)
def begG : WS := fun ρ N E => getE ρ 0 (fun s => scrW s fun ns => compW (fun s ρ' N' => N' (ρ'.set 2 (some s))) (fun ρ' P' E' => bin2 geW (fun ρ P E => getE ρ 2 fun s => absW [s] P) (bin2 powW (fun _ P _ => P (.d false (.int 10))) (fun _ P _ => P (.d false (.int 18)))) ρ' (fun s => boolP s P') E')
  (bin2 subW (fun ρ P E => getE ρ 2 fun s => absW [s] P) (bin2 powW (fun _ P _ => P (.d false (.int 10))) (fun _ P _ => P (.d false (.int 18))))) (ns.map fun z => SV.d false (.int z)) (wipeE ρ [2]) false [] fun s => setW 1 s ρ N.nx)
def absI (i : Int) : Int := if i < 0 then -i else i
theorem absI_ok {n : Int} {k : Nat} (h : -(2 ^ k) < n ∧ n < (2 : Int) ^ k) : 0 ≤ absI n ∧ absI n < 2 ^ k := by
  unfold absI
  split <;> omega
theorem begC_ok (P : SV → Prop) : ∀ (ns : List Int) (acc : List Int) (s0 s1 s2 : Option SV), P (.fr false (.list ((acc ++ ns.map absI).map PyData.int))) →
    compW (fun s ρ' N' => N' (ρ'.set 2 (some s))) (fun _ P' _ => P' true) (fun ρ P E => getE ρ 2 fun s => absW [s] P) (ns.map fun z => SV.d false (.int z)) [s0, s1, s2] false (acc.map PyData.int) P
  | [], acc, s0, s1, s2, h => by rw [List.map_nil, List.append_nil] at h; exact h
  | n :: r, acc, s0, s1, s2, h => by
    have ih := begC_ok P r (acc ++ [absI n]) s0 s1 s2 (by rw [List.append_assoc]; exact h)
    rw [List.map_append] at ih
    cases s0 <;> cases s1 <;> exact ih
theorem begG_ok (P : SV → Prop) : ∀ (ns : List Int) (acc : List Int) (s0 s1 s2 : Option SV), (∀ gs : List Int, gs.length ≤ acc.length + ns.length → (∀ g ∈ gs, g ∈ acc ∨ ∃ n ∈ ns, g = absI n - 10 ^ 18 ∧ 10 ^ 18 ≤ absI n) → P (.fr false (.list (gs.map PyData.int)))) →
    compW (fun s ρ' N' => N' (ρ'.set 2 (some s))) (fun ρ' P' E' => bin2 geW (fun ρ P E => getE ρ 2 fun s => absW [s] P) (bin2 powW (fun _ P _ => P (.d false (.int 10))) (fun _ P _ => P (.d false (.int 18)))) ρ' (fun s => boolP s P') E')
      (bin2 subW (fun ρ P E => getE ρ 2 fun s => absW [s] P) (bin2 powW (fun _ P _ => P (.d false (.int 10))) (fun _ P _ => P (.d false (.int 18))))) (ns.map fun z => SV.d false (.int z)) [s0, s1, s2] false (acc.map PyData.int) P
  | [], acc, s0, s1, s2, h => h acc (by simp) fun g m => .inl m
  | n :: r, acc, s0, s1, s2, h => by
    have cp : CPow 10 18 := ⟨by decide, by decide, by decide⟩
    by_cases q : (10 : Int) ^ 18 ≤ absI n
    · have q2 : decide ((10 : Int) ^ 18 ≤ absI n) = true := decide_eq_true q
      have ih := begG_ok P r (acc ++ [absI n - 10 ^ 18]) s0 s1 s2 fun gs hl hm => h gs (by rw [List.length_append, List.length_singleton] at hl; rw [List.length_cons]; omega) fun g m => by
        rcases hm g m with z | ⟨n', z, z2⟩
        · rcases List.mem_append.mp z with z | z
          · exact .inl z
          · exact .inr ⟨n, List.mem_cons_self, List.mem_singleton.mp z, q⟩
        · exact .inr ⟨n', List.mem_cons_of_mem _ z, z2⟩
      rw [List.map_append] at ih
      cases s0 <;> cases s1 <;> (show CPow 10 18 ∧ _; refine ⟨cp, ?_⟩; show (if decide ((10 : Int) ^ 18 ≤ absI n) = true then _ else _); rw [if_pos q2]; show CPow 10 18 ∧ yes2 _ _ ∧ _; exact ⟨cp, trivial, ih⟩)
    · have q2 : decide ((10 : Int) ^ 18 ≤ absI n) = false := decide_eq_false q
      have ih := begG_ok P r acc s0 s1 s2 fun gs hl hm => h gs (by rw [List.length_cons]; omega) fun g m => by
        rcases hm g m with z | ⟨n', z, z2⟩
        · exact .inl z
        · exact .inr ⟨n', List.mem_cons_of_mem _ z, z2⟩
      cases s0 <;> cases s1 <;> (show CPow 10 18 ∧ _; refine ⟨cp, ?_⟩; show (if decide ((10 : Int) ^ 18 ≤ absI n) = true then _ else _); rw [q2]; exact ih)
section
variable {X : Cx} {C : Cn} {st1 : Stmt} {cellsE : Expr} {p1 p2 p3 p4 p5 p6 p7 p8 p9 : Pos} {j1 j2 j3 j4 j5 j6 : Nat}
theorem vints {K : PySem.W.Frag} {k : Bool} {H : Hp} : ∀ {ns : List Int} {vs : List V}, IsL K k H vs (ns.map PyData.int) → vs = ns.map V.int
  | [], _, .nil => rfl
  | n :: r, _, .cons a b => by
    cases a
    rw [List.map_cons, vints b]
/-- the first def's body -/
theorem RelN.free {n : Nat} {G H : Hp} {ρ : Env} {σ : L2.St} (R : Rel C G ρ σ H) (hst : C.st = none) (hl : n ≤ C.lim) : RelN C n G ρ σ H := ⟨R, ⟨0, fun a g t t' e => (by rw [hst] at e; cases e), by omega⟩, fun a g t e => (by rw [hst] at e; cases e)⟩
theorem begun_body {c1 c2 : Nat} (xc : XC X C) (hst : C.st = none) (hl1 : c1 ≤ C.lim) (hl2 : c2 ≤ C.lim) (h1 : DS X C c1 st1 begG) (h2 : DE X C c2 cellsE begC) (n : NameOk X 1 "great") :
    PSs X [st1, .Return (some (.Dict [some (.Constant (.str "great") j1 p1), some (.Constant (.str "cells") j2 p2), some (.Constant (.str "rest") j3 p3), some (.Constant (.str "turn") j4 p4)] [.Name "great" p5, cellsE, .Constant (.int 0) j5 p6, .Constant (.int 0) j6 p7] p8)) p9]
      (fun D σ H => ∃ G ns, Rel C G [some (.scr ns), none, none] σ H ∧ ns.length ≤ 1000 ∧ (∀ n ∈ ns, -(2 ^ bigS) < n ∧ n < 2 ^ bigS) ∧
        ∀ (a g c : Addr) (great cells : List Int) (G' H' : Hp), Step C.toBs C.G0 C.H0 G' H' → StIs C.K G' H' a g great cells 0 0 c → a ≠ g → G' a = none → G' g = none → fr0 C.H0 a → fr0 C.H0 g → D.rt (.ref a) H') := by
  refine PSs.imp (pss_cons h1 (pss_one (ps_ret (pe_disp (pps_cons pe_str (pe_var n.1 n.2.1 n.2.2.1 n.2.2.2) (pps_cons pe_str h2 (pps_cons pe_str pe_int (pps_cons pe_str pe_int pps_nil)))) (by rfl) (by rfl) (by simp) (show 4 ≤ 15 by decide))))) ?_
  rintro D σ H ⟨G, ns, R, hlen, hb, kt⟩
  have big : (2 : Int) ^ bigS ≤ 2 ^ bigN := by
    have := Nat.pow_le_pow_right (show 0 < 2 by decide) (show bigS ≤ bigN by decide)
    exact_mod_cast this
  have ab : ∀ n ∈ ns, 0 ≤ absI n ∧ absI n < 2 ^ bigN := fun n m => by
    have := absI_ok (k := bigS) (hb n m)
    exact ⟨this.1, Int.lt_of_lt_of_le this.2 big⟩
  refine ⟨G, _, { nx := fun ρ => ∃ gs : List Int, ρ = [some (.scr ns), some (.own false (.list (gs.map PyData.int))), none] ∧ gs.length ≤ 1000 ∧ ∀ z ∈ gs, 0 ≤ z ∧ z < 2 ^ bigN, rt := fun _ => False }, RelN.free R hst hl1, ?_, ⟨?_, fun _ _ _ _ z => z.elim, fun _ _ _ _ _ _ z => z.elim, fun _ _ _ _ _ _ z => z.elim⟩⟩
  · show compW _ _ _ _ _ _ _ _
    refine begG_ok _ ns [] _ _ _ fun gs hl hm => ⟨gs, rfl, by rw [List.length_nil] at hl; omega, fun z m => ?_⟩
    rcases hm z m with q | ⟨n, q, e, l⟩
    · cases q
    · have := ab n q
      have e18 : (0 : Int) ≤ 10 ^ 18 := by decide
      omega
  · rintro G1 ρ1 σ1 H1 sm gr ⟨gs, rfl, hgl, hgb⟩ R1 a na
    obtain ⟨g, eg, og⟩ := own_get R1 (i := 1) rfl
    obtain ⟨o, hs, _⟩ := R1.slots
    obtain ⟨vg, eg2, zg, nhg, gg, fg, _⟩ := hs 1 _ rfl
    have Sa := Step.alloc (o := HO.dK []) R1.ok na
    refine ⟨.ref g, eg, ?_⟩
    have eg3 : o 1 = g := by rw [eg] at eg2; cases eg2; injection zg with zg; exact zg.symm
    show TD C c2 begC σ1 (upd H1 a (.dK [])) _
    refine ⟨G1, _, fun s => s = .fr false (.list ((ns.map absI).map PyData.int)), RelN.free (R1.step Sa) hst hl2, ?_, ?_⟩
    · show compW _ _ _ _ _ _ _ _
      exact begC_ok _ ns [] _ _ _ rfl
    rintro sv v G2 H2 rfl S2 V2
    obtain ⟨G3, S3, V3, _⟩ := V2.frz S2.toStep
    have V3 : Is C.K false G3 v (.list ((ns.map absI).map PyData.int)) := V3
    have hid0 : ∀ b, ¬ hid C.toBs b := fun b ⟨_, _, e, _⟩ => by rw [hst] at e; cases e
    have ha2 : H2 a = some (.dK []) := S3.keep a _ upd_same (hid0 a) fun _ => HO.noConfusion
    cases V3 with
    | @lst c vs _ hc _ ic =>
      have ec := vints ic
      subst ec
      obtain ⟨vsg, hg1, lg, ig⟩ := og
      have ei := vints ig
      subst ei
      have ga : a ≠ g := fun z => by rw [z, hg1] at na; cases na
      have hg2 : H2 g = some (.lst (gs.map V.int)) := S3.keep g _ (by rw [upd_ne (Ne.symm ga)]; exact hg1) (hid0 g) fun _ => HO.noConfusion
      have fa : fr0 C.H0 a := R1.ent.dom (fr0_none na)
      have S4 := R1.ent.trans (Sa.trans S3)
      have ga3 : G3 a = none := by
        cases z : G3 a with
        | none => rfl
        | some u =>
          rcases (Sa.trans S3).new a (by rw [z]; exact Option.some_ne_none _) with y | y
          · exact absurd (R1.ok.noG na) y
          · exfalso
            have z2 := S4.ok.sub _ _ z
            rw [ha2] at z2
            cases z2
            rcases S3.new a (by rw [z]; exact Option.some_ne_none _) with y | y
            · exact y (R1.ok.noG na)
            · exact nw_not y upd_same rfl
      have gg3 : G3 g = none := by
        cases z : G3 g with
        | none => rfl
        | some u =>
          rcases (Sa.trans S3).new g (by rw [z]; exact Option.some_ne_none _) with y | y
          · rw [← eg3] at y; exact absurd gg y
          · exact (nw_not y hg1 rfl).elim
      have S5 := S4.write (o := .dK [(.inr "great", .ref g), (.inr "cells", .ref c), (.inr "rest", .int 0), (.inr "turn", .int 0)]) fa ha2 rfl (hid0 a) ga3
      refine ⟨ha2, [(.inr "great", .ref g), (.inr "cells", .ref c), (.inr "rest", .int 0), (.inr "turn", .int 0)], rfl, show 4 ≤ 15 by decide, ?_⟩
      refine kt a g c gs (ns.map absI) G3 _ S5 ⟨upd_same, by rw [upd_ne (Ne.symm ga)]; exact hg2, SqL.of hc, hgb, fun x m => ?_, ⟨Int.le_refl 0, Int.pow_pos (by decide)⟩, Int.le_refl 0, hgl, by rw [List.length_map]; exact hlen⟩ ga ga3 gg3 fa (by rw [← eg3]; exact fg)
      obtain ⟨n, hn, rfl⟩ := List.mem_map.mp m
      exact ab n hn
end
end DL
set_option Elab.async false
set_option linter.all false
set_option maxRecDepth 100000
set_option maxHeartbeats 1000000
namespace DL
open PySem PySem.Spec PyProof.Rows L2
/-- the first def, as it is called -/
structure BegFn (P : Program) (w : World) (K : PySem.W.Frag) (mg : Str → Option Value) (base : Heap) (k : Nat) : Prop where
  ex : ∃ (a : Addr) (fd : FuncData), FnG P w K mg base false k a fd ["script"] (BegunS K mg) ∧ mg ("_law_begun" : Str) = some (.ref a) ∧ PySem.W.keepIn K (.ref a) = true ∧ Binds K fd ["script"] []
/-- how the body must look -/
structure BegShape (st : Stmt) (st1 : Stmt) (cellsE : Expr) : Prop where
  ex : ∃ (p1 p2 p3 p4 p5 p6 p7 p8 p9 : Pos) (j1 j2 j3 j4 j5 j6 : Nat), defBody st = [st1, .Return (some (.Dict [some (.Constant (.str "great") j1 p1), some (.Constant (.str "cells") j2 p2), some (.Constant (.str "rest") j3 p3), some (.Constant (.str "turn") j4 p4)] [.Name "great" p5, cellsE, .Constant (.int 0) j5 p6, .Constant (.int 0) j6 p7] p8)) p9]
theorem begun_fn {P : Program} {w : World} {K : PySem.W.Frag} {mg : Str → Option Value} {base : Heap} {k c1 c2 : Nat} {st st1 : Stmt} {cellsE : Expr} (h : FT K mg "_law_begun" st ["script"]) (S : FnScope ["script", "great", "cell"] ["script"] (defScope st)) (hs : BegShape st st1 cellsE)
    (hgr : (defScope st).names.lookup ("great" : Str) = some .local)
    (b1 : ∀ (a : Addr) (cdv : Value) (A : Around) (out : List PySem.Env) (s : Shared) (H : Hp) (E : XK) (C : Cn), XC (cxOf (CX P w) P w K mg base ["script", "great", "cell"] "_law_begun" (defScope st) a cdv A out s H E) C → DS (cxOf (CX P w) P w K mg base ["script", "great", "cell"] "_law_begun" (defScope st) a cdv A out s H E) C c1 st1 begG)
    (b2 : ∀ (a : Addr) (cdv : Value) (A : Around) (out : List PySem.Env) (s : Shared) (H : Hp) (E : XK) (C : Cn), XC (cxOf (CX P w) P w K mg base ["script", "great", "cell"] "_law_begun" (defScope st) a cdv A out s H E) C → DE (cxOf (CX P w) P w K mg base ["script", "great", "cell"] "_law_begun" (defScope st) a cdv A out s H E) C c2 cellsE begC) :
    BegFn P w K mg base (k + 1) := by
  obtain ⟨a, fd, F, m, kp, b⟩ := h
  refine ⟨a, fd, fng_of F S ?_ ?_, m, kp, b⟩
  · rintro vs H Q E ⟨B, G, v, ns, _, _, _, rfl, _⟩
    rfl
  · rintro cdv A out s H vs Q E _ hgu hr ⟨B, G, v, ns, hK, hmg, hst, rfl, ok, sc, hb, kt⟩
    let C : Cn := { toBs := B, gd := false, G0 := G, H0 := H, lim := c1 + c2, ex := fun _ => False, E := E }
    have xc : XC (cxOf (CX P w) P w K mg base ["script", "great", "cell"] "_law_begun" (defScope st) a cdv A out s H E) C :=
      { K := hK.symm, mg := hmg.symm, calm := rfl, room := ⟨k, hr⟩, guards := fun z => (by cases z), pass := passes_call (takes_of rfl rfl rfl rfl) (fun _ _ _ _ h => h), takes := takes_of rfl rfl rfl rfl, pown := passes_of rfl, link := fun n c G' H' q => q.elim }
    obtain ⟨p1, p2, p3, p4, p5, p6, p7, p8, p9, j1, j2, j3, j4, j5, j6, eb⟩ := hs.ex
    rw [eb]
    refine ⟨_, begun_body xc hst (Nat.le_add_right _ _) (Nat.le_add_left _ _) (b1 a cdv A out s H E C xc) (b2 a cdv A out s H E C xc) ⟨rfl, .inl hgr, by decide, by decide⟩, ?_⟩
    subst hK
    have sc' : IsV B G H v (.scr ns) := sc
    refine ⟨G, ns, slots_start (C := C) (ss := [.scr ns]) (.cons sc' (fun _ _ => SV.noConfusion) (fun _ _ => SV.noConfusion) .nil) ok rfl rfl 2, sc.len, hb, fun a' g c great cells G' H' S1 S2 n1 n2 n3 n4 n5 => ?_⟩
    exact kt a' g c great cells G' H' S1 S2 n1 n2 n3 n4 n5
section
variable {X : Cx} {C : Cn} {pos p p2 : Pos} {k : Nat}
/-- _law_begun(script) -/
theorem pe_begun (F : BegFn X.prog X.w X.K X.mg X.base k) (xc : XC X C) (hr : Room k X.A) (n : NameOk X 0 "script") (hg : Gl X "_law_begun")
    (he : starEach [.Name "script" p2] X.env = (false, eval (.Name "script" p2) X.env) :: starEach [] X.env := by rfl) (hpl : (backTo pos (starEach [] X.env)).any (·.1) = false := by rfl) :
    PE X (.Call (.Name "_law_begun" p) [.Name "script" p2] [] pos) (fun σ H Q => ∃ v, σ[0]? = some (some v) ∧ BegunS X.K X.mg [v] H Q C.E) := by
  obtain ⟨a, fd, F, hm, hk, hb⟩ := F.ex
  refine ⟨fun pins s σ H Q I h => ?_⟩
  obtain ⟨v, ev, h⟩ := h
  refine wpAny_Call_Name_kw (ld_glob I hg hm ?_ (by decide))
  have hA : PA X [.Name "script" p2] _ := pa_cons (pe_var n.1 n.2.1 n.2.2.1 n.2.2.2) pa_nil he
  refine PySem.W.callWith_K (h₀ := X.base) I.ok.mod.kin hk (thn (hA.run pos pins s σ H (fun vs H' => vs = [v] ∧ H' = H) I ⟨v, ev, rfl, rfl⟩) fun us s1 ⟨vs, H1, I1, r, q⟩ => ⟨I1.kIn, ?_⟩) he hpl
  obtain ⟨rfl, rfl⟩ := q
  exact callG F (fun z => by cases z) hr xc.pass hb I1 r h
/-- the law's first row: the state is made -/
theorem law_begin {c : Nat} {rest : List Stmt} {f : WS} {x : Str} {p3 p5 : Pos} {m : Nat} (F : BegFn X.prog X.w X.K X.mg X.base k) (xc : XC X C) (hr : Room k X.A) (hst : C.st = none) (hN : X.N.Nodup) (hlen : X.N.length = m + 2) (n : NameOk X 0 "script") (hg : Gl X "_law_begun") (hx : X.N[1]? = some x) (hlx : X.env.scope.names.lookup x = some .local)
    (hb : ∀ C' : Cn, XC X C' → C'.gd = C.gd → C'.T = C.T → DSs X C' c rest f) (hcap : c ≤ capT)
    (he : starEach [.Name "script" p2] X.env = (false, eval (.Name "script" p2) X.env) :: starEach [] X.env := by rfl) (hpl : (backTo pos (starEach [] X.env)).any (·.1) = false := by rfl)
    (hs : swapsWith (.Call (.Name "_law_begun" p) [.Name "script" p2] [] pos) (some (.Name x p3)) p5.line X.env = pure false := by rfl) :
    PSs X (.Assign [.Name x p3] (.Call (.Name "_law_begun" p) [.Name "script" p2] [] pos) p5 :: rest)
      (fun D σ H => ∃ G ns, Rel C G (some (.scr ns) :: List.replicate (m + 1) none) σ H ∧ ns.length ≤ 1000 ∧ (∀ n ∈ ns, -(2 ^ bigS) < n ∧ n < 2 ^ bigS) ∧ f (some (.scr ns) :: some .st :: List.replicate m none) { nx := fun _ => False, rt := fun s => ∃ kk, s = .d kk (.bool true) } (fun _ => False) ∧ ∀ H', D.rt (.bl true) H') := by
  refine ⟨fun pins s σ H D I h => ?_⟩
  obtain ⟨G, ns, R, hl, hbd, hf, hd⟩ := h
  obtain ⟨v, ev, q, _⟩ := R.get (i := 0) rfl
  have q : ScrO C.K G v ns := q
  let t : TE := fun σ H Q => ∃ v, σ[0]? = some (some v) ∧ BegunS X.K X.mg [v] H Q C.E
  have first : PS X (.Assign [.Name x p3] (.Call (.Name "_law_begun" p) [.Name "script" p2] [] pos) p5) _ := ps_set hN hx (.inl hlx) (pe_begun (C := C) F xc hr n hg he hpl) hs (.inr hlx)
  have other : PSs X rest (fun D σ H => ∃ C' : Cn, XC X C' ∧ C'.gd = C.gd ∧ C'.T = C.T ∧ TDS C' c f D σ H) := ⟨fun pins s σ H D I ⟨C', a1, a2, a3, a4⟩ => (hb C' a1 a2 a3).run pins s σ H D I a4⟩
  refine (pss_cons first other).run pins s σ H D I ?_
  refine ⟨v, ev, C.toBs, G, v, ns, xc.K.symm, xc.mg.symm, hst, rfl, R.ok, by rw [xc.K]; exact q, hbd, fun a g c_ great cells G' H' S St nag n1 n2 f1 f2 => ?_⟩
  have St : StIs C.K G' H' a g great cells 0 0 c_ := by rw [← xc.K]; exact St
  let C' : Cn := { C with st := some (a, g), G0 := G', H0 := H', lim := c, ex := fun _ => False }
  have w' : WOk C'.toBs G' H' := ⟨S.ok.sub, fun x ⟨a2, g2, e, z⟩ => (by cases e; rcases z with rfl | rfl; exact n1; exact n2), fun a2 g2 e => (by cases e; exact ⟨nag, St.ok⟩), S.ok.tab, S.ok.gt⟩
  refine ⟨C', ⟨xc.K, xc.mg, xc.calm, xc.room, xc.guards, xc.pass, xc.takes, xc.pown, fun _ _ _ _ z => z.elim⟩, rfl, rfl, G', _, _, ?_, hf, ⟨fun _ _ _ _ _ _ z => z.elim, fun s2 v2 G2 H2 z S2 _ V2 _ => ?_, fun _ _ _ _ _ _ z => z.elim, fun _ _ _ _ _ _ z => z.elim⟩⟩
  · have base : Rel C' G' (some (.scr ns) :: List.replicate (m + 1) none) σ H' := by
      refine ⟨Step.refl w', R.len, fun _ => 0, fun i s2 e => ?_, fun i j k1 k2 x y e1 _ _ => ?_⟩
      · match i, e with
        | 0, e =>
          cases e
          exact ⟨v, ev, (q.same S.sub : ScrO C.K G' v ns)⟩
        | i + 1, e =>
          have e : (List.replicate (m + 1) (none : Option SV))[i]? = some (some s2) := e
          rw [List.getElem?_replicate] at e
          split at e <;> cases e
      · match i, e1 with
        | i + 1, e =>
          have e : (List.replicate (m + 1) (none : Option SV))[i]? = some (some (.own k1 x)) := e
          rw [List.getElem?_replicate] at e
          split at e <;> cases e
    have r2 := base.set (i := 1) (s := .st) (v := .ref a) (⟨a, g, rfl, rfl⟩ : IsV C'.toBs G' H' (.ref a) .st) (fun _ _ => SV.noConfusion) (fun _ _ => SV.noConfusion)
    refine ⟨r2, ⟨0, Gr.refl, by show 0 + c ≤ c; omega⟩, fun a2 g2 t e h => ?_⟩
    cases e
    have z := h.uniq ⟨g, c_, 0, St.d⟩
    show t + c ≤ capT
    omega
  · obtain ⟨kk, rfl⟩ := z
    obtain ⟨V2, _⟩ := V2
    cases V2
    exact hd H2
end
end DL
set_option Elab.async false
set_option linter.all false
set_option maxRecDepth 100000
set_option maxHeartbeats 1000000
namespace DL
open PySem PySem.Spec PyProof.Rows L2
/-! ## the end of a law's row -/
section
variable {P : Program} {w : World} {K : PySem.W.Frag} {mg mb : Str → Option Value} {s1 : Shared} {a : Addr} {tabs : List (Addr × Addr)} {its : List Value} {ns : List Int} {H : Hp}
/-- what the head leaves, and what is tracked from the start: the script (or it is written), and empty tables -/
structure Left (P : Program) (w : World) (K : PySem.W.Frag) (mg mb : Str → Option Value) (s1 : Shared) (a : Addr) (tabs : List (Addr × Addr)) (its : List Value) : Prop where
  kin : K.In s1.heap
  ns : s1.heap.Ns mainGlobals mg
  nb : s1.heap.Ns builtinsNs mb
  boot : ∀ x : Str, x ≠ "__name__" → mb x = bootBuiltins x
  lim : s1.heap.NoLimit
  gens : s1.gens = #[]
  tab : ∀ p ∈ tabs, s1.heap.get? p.2 = some { cls := .none, data := .fields #[] }
  tabK : ∀ p ∈ tabs, K.lookup p.2 = none
  code : ∀ p ∈ tabs, PySem.W.CodeHd s1.heap p.1 p.2
  bm : ∃ (bm : Addr) (ob : Obj), mg "__builtins__" = some (.ref bm) ∧ bm ≠ builtinsNs ∧ s1.heap.get? bm = some ob ∧ ob.cls = .type "module" ∧ ob.dict = some builtinsNs ∧ ob.data = .plain
  arg : s1.heap.get? a = some { cls := .type "list", data := .seq its.toArray }
structure Tracked (K : PySem.W.Frag) (h : Heap) (a : Addr) (tabs : List (Addr × Addr)) (H : Hp) : Prop where
  dom : ∀ b, H b ≠ none → b = a ∨ ∃ p ∈ tabs, b = p.2
  tab : ∀ p ∈ tabs, H p.2 = some (.tbl #[])
  arg : H a ≠ none → K.lookup a = none
variable (L : Left P w K mg mb s1 a tabs its) (T : Tracked K s1.heap a tabs H)
include L T
theorem out_of {b : Addr} {o : Obj} (e : s1.heap.get? b = some o) (h1 : ∀ vs n, o.data ≠ .seq vs n) (h2 : o.data ≠ .fields #[]) : H b = none := by
  by_cases q : H b = none
  · exact q
  · exfalso
    rcases T.dom b q with z | ⟨p, hp, z⟩
    · rw [z, L.arg] at e; cases e; exact h1 _ _ rfl
    · rw [z, L.tab p hp] at e; cases e; exact h2 rfl
theorem seen {b : Addr} {o : Obj} (e : s1.heap.get? b = some o) (h1 : ∀ vs n, o.data ≠ .seq vs n) (h2 : o.data ≠ .fields #[]) : (hidT s1.heap H).get? b = some o := hidT_get e (out_of L T e h1 h2)
theorem seenNs {b : Addr} {m : Str → Option Value} (x : s1.heap.Ns b m) : (hidT s1.heap H).Ns b m := by
  obtain ⟨o, es, ep, e, d, r⟩ := x
  refine ⟨o, es, ep, seen L T e (fun vs n z => ?_) fun z => ?_, d, r⟩
  · rw [d] at z; cases z
  · rw [d] at z; cases z
theorem seenK : K.In (hidT s1.heap H) := fun b o e => hidT_get (L.kin b o e) (by
  by_cases q : H b = none
  · exact q
  · exfalso
    rcases T.dom b q with z | ⟨p, hp, z⟩
    · subst z; rw [T.arg q] at e; cases e
    · rw [z, L.tabK p hp] at e; cases e)
theorem seenT : ∀ p ∈ tabs, LamX.TabB (hidT s1.heap H) mg p.1 p.2 := fun p hp => by
  have tp := L.tab p hp
  have gNs := L.ns
  refine ⟨?_, ?_, fun z => ?_⟩
  · obtain ⟨o, us, file, tf, flags, tg, inF, text, tt, e1, r1, r2, r3, r⟩ := L.code p hp
    refine ⟨o, us, file, tf, flags, tg, inF, text, tt, seen L T e1 (fun vs n z => ?_) fun z => ?_, r1, r2, r3, r⟩
    · rw [r2] at z; cases z
    · rw [r2] at z; cases z; simp at r3
  · obtain ⟨bm, ob, b1, b2, b3, b4, b5, b6⟩ := L.bm
    refine ⟨bm, ob, b1, b2, fun q => ?_, fun q => ?_, seen L T b3 (fun vs n z => ?_) fun z => ?_, b4, b5, b6⟩
    · obtain ⟨o, es, ep, e, hd, _⟩ := gNs
      rw [q, e] at b3; cases b3; rw [hd] at b6; cases b6
    · rw [q, tp] at b3; cases b3; cases b6
    · rw [b6] at z; cases z
    · rw [b6] at z; cases z
  · obtain ⟨o, es, ep, e, hd, _⟩ := gNs
    rw [z, tp] at e; cases e; cases hd
theorem entry0 (hok : HOk P w H s1.heap) : Env0 P w K mg (hidT s1.heap H) callerA [] s1 H := by
  have lim : (hidT s1.heap H).NoLimit := let ⟨mc, h1, h2⟩ := L.lim; ⟨mc, seenNs L T h1, h2⟩
  exact ⟨rfl, ⟨seenK L T, seenNs L T L.ns, ⟨mb, seenNs L T L.nb, L.boot⟩, lim⟩, fun b o e => of_hidT e, Nat.le_of_eq (hidT_size _ _), trivial, fun b hb => (nomatch (show b ∈ ([] : List Addr) from hb)), hok, .of_eq L.gens⟩
/-- the law is called, from what is tracked -/
theorem law_run {k : Nat} {fa : Addr} {fd : FuncData} {x : Str} {sp : Sp} (hok : HOk P w H s1.heap) (hr : Room k callerA) (F : FnG P w K mg (hidT s1.heap H) true k fa fd [x] sp) (hb : ∀ (s : Shared) (u : Value), BindsTo s fd ⟨[u], []⟩ [(x, u)])
    (hsp : sp [.ref a] H (fun v _ => v = .bl true) fun _ _ _ => False) (fz : ∀ b, H b = none ∨ (∃ p ∈ tabs, b = p.2) ∨ ∃ o xs, H b = some (.frz o (.lst xs))) :
    codeAny (model P w) callerA (.call (.ref fa) ⟨[.ref a], []⟩) (fun r s' => r = .ok (.ret (.bool true)) ∧ OldK s1.heap s'.heap ∧ s'.os = s1.os ∧ AllBare s'.gens) s1 := by
  refine codeAny_mono (F.go callerA [] s1 H ⟨[.ref a], []⟩ [.ref a] [.ref a] _ _ (fun _ => rfl) hr (entry0 L T hok) (hb s1 (.ref a)) (.cons rfl .nil) hsp) fun r s' h => ?_
  match r, h with
  | .error e, h =>
    exfalso
    obtain ⟨_, _, _, _, _, _, _, _, _, _, _, _, z⟩ := h
    exact z
  | .ok (.ret u), h =>
    obtain ⟨v, H', os, bare, un, hok', rv, ev⟩ := h
    subst ev
    obtain rfl : u = Value.bool true := rv
    have stays : ∀ b o, (∀ p ∈ tabs, b ≠ p.2) → s1.heap.get? b = some o → s'.heap.get? b = some o := fun b o nb e => by
      rcases fz b with z | ⟨p, hp, z⟩ | ⟨ob, xs, z⟩
      · exact un.keep b o e z (fun m => nomatch (show b ∈ ([] : List Addr) from m)) (by simp)
      · exact absurd z (nb p hp)
      · have e1 := (hok b _ z).1
        have e2 := (hok' b _ (un.frzs b ob _ z)).1
        rw [e] at e1
        cases e1
        exact e2
    have grew : ∀ p ∈ tabs, ∃ more : Array Value, s'.heap.get? p.2 = some { cls := .none, data := .fields more } := fun p hp => by
      obtain ⟨more, z⟩ := un.tbls p.2 #[] (T.tab p hp)
      exact ⟨_, hok' p.2 _ z⟩
    refine ⟨rfl, ⟨fun b o e => ?_, fun b o e => ?_⟩, os, bare⟩
    · by_cases q : ∃ p ∈ tabs, b = p.2
      · obtain ⟨p, hp, rfl⟩ := q
        obtain ⟨more, hm⟩ := grew p hp
        have tp := L.tab p hp
        rw [tp] at e
        cases e
        exact .inr (.inl ⟨((L.code p hp).tab tp).isCodeTable, rfl, #[], more, rfl, by rw [Array.empty_append]; exact hm⟩)
      · exact .inl (stays b o (fun p hp z => q ⟨p, hp, z⟩) e)
    · by_cases q : ∃ p ∈ tabs, b = p.2
      · obtain ⟨p, hp, rfl⟩ := q
        obtain ⟨more, hm⟩ := grew p hp
        exact ⟨_, hm⟩
      · exact ⟨o, stays b o (fun p hp z => q ⟨p, hp, z⟩) e⟩
end
end DL
set_option Elab.async false
set_option linter.all false
set_option maxRecDepth 100000
set_option maxHeartbeats 1000000
namespace DL
open PySem PySem.Spec PyProof.Rows L2
/-- the world of a law -/
def bs0 (K : PySem.W.Frag) (mg : Str → Option Value) (T : List (Addr × Str)) : Bs := { K := K, mg := mg, st := none, T := T }
/-- what a law promises -/
def spLaw (K : PySem.W.Frag) (mg : Str → Option Value) (T : List (Addr × Str)) : Sp := fun vs H Q E => ∃ (G : Hp) (v : V) (ns : List Int), vs = [v] ∧ WOk (bs0 K mg T) G H ∧ ScrO K G v ns ∧ (∀ n ∈ ns, -(2 ^ bigS) < n ∧ n < 2 ^ bigS) ∧ ∀ H', Q (.bl true) H'
theorem law_heap {P : Program} {w : World} {K : PySem.W.Frag} {mg mb : Str → Option Value} {s1 : Shared} {a : Addr} {tabs : List (Addr × Addr)} {its : List Value} {ns : List Int} {q : Addr × Addr → Str} (L : Left P w K mg mb s1 a tabs its) (hi : IntsAre its ns) (hl : ns.length ≤ 1000) :
    ∃ G H, Tracked K s1.heap a tabs H ∧ HOk P w H s1.heap ∧ WOk (bs0 K mg (tabs.map fun p => (p.2, q p))) G H ∧ ScrO K G (.ref a) ns ∧ ∀ b, H b = none ∨ (∃ p ∈ tabs, b = p.2) ∨ ∃ o xs, H b = some (.frz o (.lst xs)) := by
  have rv := vals_ints hi
  have len := hi.length
  have aT : ∀ p ∈ tabs, a ≠ p.2 := fun p hp z => by
    have e := L.tab p hp
    rw [← z, L.arg] at e
    have e2 : Data.seq its.toArray _ = Data.fields #[] := congrArg Obj.data (Option.some.inj e)
    cases e2
  let TB : Hp := fun b => if ∃ p ∈ tabs, b = p.2 then some (.tbl #[]) else none
  have tb1 : ∀ p ∈ tabs, TB p.2 = some (.tbl #[]) := fun p hp => if_pos ⟨p, hp, rfl⟩
  have tba : TB a = none := if_neg fun ⟨p, hp, z⟩ => aT p hp z
  have tb2 : ∀ b o, TB b = some o → (∃ p ∈ tabs, b = p.2) ∧ o = .tbl #[] := fun b o e => by
    by_cases h : ∃ p ∈ tabs, b = p.2
    · have e2 : TB b = some (.tbl #[]) := if_pos h
      rw [e2] at e; cases e; exact ⟨h, rfl⟩
    · have e2 : TB b = none := if_neg h
      rw [e2] at e; cases e
  have tokT : ∀ b o, TB b = some o → ObjOk P w TB s1.heap b o := fun b o e => by
    obtain ⟨⟨p, hp, rfl⟩, rfl⟩ := tb2 b o e
    exact L.tab p hp
  by_cases hk : K.lookup a = none
  · let F : HO := .frz { cls := .type "list", data := .seq its.toArray } (.lst (ns.map V.int))
    have eF : upd TB a F a = some F := upd_same
    refine ⟨fun b => if b = a then some F else none, upd TB a F, ⟨fun b hb => ?_, fun p hp => ?_, fun _ => hk⟩, fun b o e => ?_, ⟨fun b o e => ?_, fun x ⟨_, _, z, _⟩ => (by cases z), fun _ _ z => (by cases z), fun r hr => ?_, fun b ps e => ?_⟩, ⟨⟨a, rfl, .inl (.inr ⟨_, if_pos rfl⟩)⟩, hl⟩, fun b => ?_⟩
    · by_cases h : b = a
      · exact .inl h
      · rw [upd_ne h] at hb
        cases z : TB b with
        | none => exact absurd z hb
        | some o => exact .inr (tb2 b o z).1
    · rw [upd_ne (Ne.symm (aT p hp))]; exact tb1 p hp
    · by_cases h : b = a
      · subst h
        rw [eF] at e; cases e
        exact ⟨L.arg, by rw [List.length_map]; exact small_line hl, its, _, rv, L.arg⟩
      · rw [upd_ne h] at e
        obtain ⟨⟨p, hp, rfl⟩, rfl⟩ := tb2 b o e
        exact L.tab p hp
    · by_cases h : b = a
      · subst h
        rw [if_pos rfl] at e; rw [eF]; exact e
      · rw [if_neg h] at e; cases e
    · obtain ⟨p, hp, rfl⟩ := List.mem_map.mp hr
      exact LamX.TabS.nil (by rw [upd_ne (Ne.symm (aT p hp))]; exact tb1 p hp)
    · by_cases h : b = a
      · rw [if_pos h] at e; exact HO.noConfusion (Option.some.inj e)
      · rw [if_neg h] at e; cases e
    · by_cases h : b = a
      · exact .inr (.inr ⟨_, _, by rw [h]; exact eF⟩)
      · rw [upd_ne h]
        cases z : TB b with
        | none => exact .inl rfl
        | some o => exact .inr (.inl (tb2 b o z).1)
  · refine ⟨fun _ => none, TB, ⟨fun b hb => ?_, tb1, fun z => absurd tba z⟩, tokT, ⟨fun b o e => (by cases e), fun _ _ => rfl, fun _ _ z => (by cases z), fun r hr => ?_, fun b ps e => (by cases e)⟩, ⟨⟨a, rfl, ?_⟩, hl⟩, fun b => ?_⟩
    · cases z : TB b with
      | none => exact absurd z hb
      | some o => exact .inr (tb2 b o z).1
    · obtain ⟨p, hp, rfl⟩ := List.mem_map.mp hr
      exact LamX.TabS.nil (tb1 p hp)
    · cases z : K.lookup a with
      | none => exact absurd z hk
      | some o =>
        have e := L.kin a o z
        rw [L.arg] at e
        cases e
        exact .inr ⟨_, its.toArray, _, z, rfl, rfl, rfl, by rw [List.size_toArray, len]; exact small_line hl, by simpa using rv⟩
    · cases z : TB b with
      | none => exact .inl rfl
      | some o => exact .inr (.inl (tb2 b o z).1)
theorem bits_lt {n : Int} {k : Nat} (h : Builtin.Int.intBits n ≤ k) : -(2 ^ k) < n ∧ n < (2 : Int) ^ k := by
  have key : n.natAbs < 2 ^ k := by
    unfold Builtin.Int.intBits at h
    split at h
    · rename_i z
      have z2 : n.natAbs = 0 := by simpa using z
      rw [z2]; exact Nat.pow_pos (by decide)
    · exact Nat.lt_of_lt_of_le Nat.lt_log2_self (Nat.pow_le_pow_right (by decide) h)
  have e : ((2 ^ k : Nat) : Int) = 2 ^ k := by norm_cast
  omega
/-- the last word: a law that keeps its promise at every base is kept -/
theorem law_end {P : Program} {w : World} {K : PySem.W.Frag} {mg mb : Str → Option Value} {s1 : Shared} {a fa : Addr} {fd : FuncData} {x : Str} {k : Nat} {tabs : List (Addr × Addr)} {its : List Value} {ns : List Int} {q : Addr × Addr → Str} (L : Left P w K mg mb s1 a tabs its) (hi : IntsAre its ns) (hl : ns.length ≤ 1000) (hbits : ∀ n ∈ ns, Builtin.Int.intBits n ≤ 1048576)
    (hr : Room k callerA) (hb : ∀ (s : Shared) (u : Value), BindsTo s fd ⟨[u], []⟩ [(x, u)])
    (F : ∀ base : Heap, K.In base → base.Ns mainGlobals mg → (∀ p ∈ tabs, LamX.TabB base mg p.1 p.2) → FnG P w K mg base true k fa fd [x] (spLaw K mg (tabs.map fun p => (p.2, q p)))) :
    codeAny (model P w) callerA (.call (.ref fa) ⟨[.ref a], []⟩) (fun r s' => r = .ok (.ret (.bool true)) ∧ OldK s1.heap s'.heap ∧ s'.os = s1.os ∧ AllBare s'.gens) s1 := by
  obtain ⟨G, H, T, hok, wok, sc, fz⟩ := law_heap (q := q) L hi hl
  refine law_run L T hok hr (F _ (seenK L T) (seenNs L T L.ns) (seenT L T)) hb ⟨G, .ref a, ns, rfl, wok, sc, fun n hn => ?_, fun _ => rfl⟩ fz
  exact bits_lt (hbits n hn)
theorem cap_ok {c : Nat} (h : c ≤ 2 ^ 1000) : c ≤ capT := Nat.le_trans h (Nat.pow_le_pow_right (show 0 < 2 by decide) (show 1000 ≤ 1000000 by decide))
/-- the law's own def -/
theorem law_fn {P : Program} {w : World} {K : PySem.W.Frag} {mg : Str → Option Value} {base : Heap} {k m cost : Nat} {fa c Pt : Addr} {fd : FuncData} {st : Stmt} {N : List Str} {f : WS} {x : Str} {p p2 p3 p5 pos : Pos} {rest : List Stmt} {T : List (Addr × Str)} (F : Fun K "law" "law" st fa fd) (S : FnScope N ["script"] (defScope st)) (hcode : fd.code = .ref c) (hT : T ≠ [] → (Pt, (("law" : Str) ++ ".<locals>.") ++ "<lambda>") ∈ T ∧ ∀ p ∈ T, p.1 = Pt → p.2 = (("law" : Str) ++ ".<locals>.") ++ "<lambda>")
    (TB : T ≠ [] → LamX.TabB base mg c Pt) (hs : defBody st = .Assign [.Name x p3] (.Call (.Name "_law_begun" p) [.Name "script" p2] [] pos) p5 :: rest) (B : BegFn P w K mg base k) (hlen : N.length = m + 2) (hx : N[1]? = some x) (h0 : N[0]? = some ("script" : Str)) (hsl : (defScope st).names.lookup ("script" : Str) = some .local) (hlx : (defScope st).names.lookup x = some .local) (hg : (defScope st).names.lookup ("_law_begun" : Str) = some .globalImplicit)
    (hsw : ∀ env : PySem.Env, env.scope = defScope st → swapsWith (.Call (.Name "_law_begun" p) [.Name "script" p2] [] pos) (some (.Name x p3)) p5.line env = pure false)
    (body : ∀ (cdv : Value) (A : Around) (out : List PySem.Env) (s : Shared) (H : Hp) (E : XK) (C : Cn), XC (cxOf (CX P w) P w K mg base N "law" (defScope st) fa cdv A out s H E) C → C.gd = true → C.T = T → (T ≠ [] → LamTab (cxOf (CX P w) P w K mg base N "law" (defScope st) fa cdv A out s H E) C.T) → Room k (A.deeper (envOfC "law" (defScope st) s.heap.objs.size fa cdv)) →
      DSs (cxOf (CX P w) P w K mg base N "law" (defScope st) fa cdv A out s H E) C cost rest f) (hcost : cost ≤ capT)
    (hf : ∀ ns : List Int, ns.length ≤ 1000 → f (some (.scr ns) :: some .st :: List.replicate m none) { nx := fun _ => False, rt := fun s => ∃ kk, s = .d kk (.bool true) } (fun _ => False)) :
    FnG P w K mg base true (k + 1) fa fd ["script"] (spLaw K mg T) := by
  refine fng_of F S ?_ ?_
  · rintro vs H Q E ⟨G, v, ns, rfl, _⟩
    rfl
  · rintro cdv A out s H vs Q E hcd hgu hr ⟨G, v, ns, rfl, ok, sc, hb, kt⟩
    let C : Cn := { toBs := bs0 K mg T, gd := true, G0 := G, H0 := H, lim := 0, ex := fun _ => False, E := E }
    have xc : XC (cxOf (CX P w) P w K mg base N "law" (defScope st) fa cdv A out s H E) C :=
      { K := rfl, mg := rfl, calm := rfl, room := ⟨k, hr⟩, guards := hgu, pass := passes_call (takes_of rfl rfl rfl rfl) (fun _ _ _ _ h => h), takes := takes_of rfl rfl rfl rfl, pown := passes_of rfl, link := fun n c G' H' q => q.elim }
    rw [hs]
    refine ⟨_, law_begin (m := m) B xc hr rfl S.nd hlen ⟨h0, .inl hsl, by decide, by decide⟩ hg hx hlx (fun C' xc' h1 h2 => body cdv A out s H E C' xc' h1 h2 (fun hne => ?_) hr) hcost (hs := hsw _ rfl), ?_⟩
    · have hq : (cxOf (CX P w) P w K mg base N "law" (defScope st) fa cdv A out s H E).env.qual = ("law" : Str) ++ ".<locals>." := rfl
      unfold LamTab
      rw [h2, hq]
      refine ⟨c, Pt, TB hne, hcd.symm.trans hcode, ?_, ?_⟩
      · exact (hT hne).1
      · exact (hT hne).2
    · have sc' : IsV (bs0 K mg T) G H v (.scr ns) := sc
      refine ⟨G, ns, ?_, sc.len, hb, hf ns sc.len, kt⟩
      have sl := slots_start (C := C) (ss := [.scr ns]) (.cons sc' (fun _ _ => SV.noConfusion) (fun _ _ => SV.noConfusion) .nil) ok rfl rfl (N.length - 1)
      have e1 : N.length - 1 = m + 1 := by omega
      rw [e1] at sl
      show Rel C G _ (([v].map some) ++ List.replicate (N.length - 1) none) H
      rw [e1]
      exact sl
end DL
set_option Elab.async false
set_option linter.all false
set_option maxRecDepth 100000
set_option maxHeartbeats 1000000
namespace DL
open PySem PySem.Spec PyProof.Rows L2
/-! ## loops by an invariant -/
theorem for_ind {g : WG} {fb : WS} {N : En} {E : Str → Prop} (I : List SV → Env → Prop) (step : ∀ s r ρ, I (s :: r) ρ → ∀ J : Env → Prop, (∀ ρ', I r ρ' → J ρ') → g s ρ fun ρ' => fb ρ' { nx := J, rt := N.rt, bk := N.nx, ct := J } E)
    (stop : ∀ ρ, I [] ρ → N.nx ρ) : ∀ ss ρ, I ss ρ → forW g fb ss ρ N E
  | [], ρ, h => stop ρ h
  | s :: r, ρ, h => by
    have q := step s r ρ h (fun ρ2 => forW g fb r ρ2 N E) fun ρ' h' => for_ind I step stop r ρ' h'
    exact q
theorem while_ind {fc : WB} {fb : WS} {N : En} {E : Str → Prop} (I : Nat → Env → Prop) (zero : ∀ ρ, ¬ I 0 ρ)
    (step : ∀ n ρ, I (n + 1) ρ → ∀ J : Env → Prop, (∀ ρ', I n ρ' → J ρ') → fc ρ (fun t => if t = true then fb ρ { nx := J, rt := N.rt, bk := N.nx, ct := J } E else N.nx ρ) E) : ∀ n ρ, I n ρ → whileN fc fb n ρ N E
  | 0, ρ, h => (zero ρ h).elim
  | n + 1, ρ, h => by
    have q := step n ρ h (fun ρ2 => whileN fc fb n ρ2 N E) fun ρ' h' => while_ind I zero step n ρ' h'
    exact q
theorem comp_ind {g : WG} {ft : WB} {fe : W1} {ρ : Env} {P : SV → Prop} (I : List SV → Bool → List D → Prop)
    (step : ∀ s r k acc, I (s :: r) k acc → ∀ J : Bool → List D → Prop, (∀ k' acc', I r k' acc' → J k' acc') →
      g s ρ fun ρ' => ft ρ' (fun b => if b = true then fe ρ' (fun v => keepW v fun t => datW t fun k' y => J (k || k') (acc ++ [y])) (fun _ => False) else J k acc) (fun _ => False))
    (stop : ∀ k acc, I [] k acc → P (.fr k (.list acc))) : ∀ ss k acc, I ss k acc → compW g ft fe ss ρ k acc P
  | [], k, acc, h => stop k acc h
  | s :: r, k, acc, h => by
    have q := step s r k acc h (fun k' acc' => compW g ft fe r ρ k' acc' P) fun k' acc' h' => comp_ind I step stop r k' acc' h'
    exact q
theorem min_is {a b r : Int} {k k' : Bool} {P : SV → Prop} (hr : (if b < a then b else a) = r) (h : P (.d false (.int r))) : minW [.d k (.int a), .d k' (.int b)] P := by
  subst hr
  exact h
theorem max_is {a b r : Int} {k k' : Bool} {P : SV → Prop} (hr : (if b > a then b else a) = r) (h : P (.d false (.int r))) : maxW [.d k (.int a), .d k' (.int b)] P := by
  subst hr
  exact h
section
variable {X : Cx} {C : Cn} {G H : Hp} {ρ : Env} {σ : L2.St} {c1 : Nat} {st : Stmt} {f : WS}
theorem Rel.weak {ρ' : Env} (R : Rel C G ρ σ H) (hl : ρ'.length = ρ.length) (h : ∀ (i : Nat) (s : SV), ρ'[i]? = some (some s) → ρ[i]? = some (some s)) : Rel C G ρ' σ H := by
  obtain ⟨o, h1, h2⟩ := R.slots
  exact ⟨R.ent, by rw [R.len, hl], o, fun i s e => h1 i s (h i s e), fun i j k k' x y e1 e2 => h2 i j k k' x y (h i _ e1) (h j _ e2)⟩
/-- some names veiled -/
def veil : List Bool → Env → Env
  | [], r => r
  | _ :: _, [] => []
  | b :: m, s :: r => (match b with | true => none | false => s) :: veil m r
theorem veil_len : ∀ (m : List Bool) (ρ : Env), (veil m ρ).length = ρ.length
  | [], _ => rfl
  | _ :: _, [] => rfl
  | b :: m, s :: r => by
    show (veil m r).length + 1 = r.length + 1
    rw [veil_len m r]
theorem veil_get : ∀ (m : List Bool) (ρ : Env) (i : Nat) (s : SV), (veil m ρ)[i]? = some (some s) → ρ[i]? = some (some s)
  | [], _, _, _, h => h
  | _ :: _, [], _, _, h => h
  | b :: m, t :: r, 0, s, h => by
    cases b with
    | true => cases h
    | false => exact h
  | b :: m, t :: r, i + 1, s, h => veil_get m r i s h
/-- what stands in some names is forgotten -/
theorem ds_veil (m : List Bool) (h : DS X C c1 st f) : DS X C c1 st (fun ρ N E => f (veil m ρ) N E) := by
  refine PS.imp h ?_
  rintro D σ H ⟨G, ρ, N, R, h, ok⟩
  exact ⟨G, _, N, R.at (R.toRel.weak (veil_len m ρ) (veil_get m ρ)), h, ok⟩
/-- a place where the frame is written anew -/
structure Mark (f : WS) (ρ : Env) (N : En) (E : Str → Prop) : Prop where
  go : f ρ N E
  seen : True
theorem Mark.at {N : En} {E : Str → Prop} {ρ ρ' : Env} (e : ρ = ρ') (h : f ρ' N E) : Mark f ρ N E := ⟨by rw [e]; exact h, trivial⟩
theorem ds_mark (h : DS X C c1 st f) : DS X C c1 st (Mark f) := by
  refine PS.imp h ?_
  rintro D σ H ⟨G, ρ, N, R, h, ok⟩
  exact ⟨G, ρ, N, R, h.go, ok⟩
end
end DL
set_option Elab.async false
set_option linter.all false
set_option maxRecDepth 100000
set_option maxHeartbeats 1000000
namespace L2
open PySem PySem.Spec PyProof.Rows
/-- an empty dict, seen as one whose keys are tuples -/
theorem Inv.emptyT {X : Cx} {pins : List (Addr × Obj)} {σ : St} {H : Hp} {s : Shared} {a : Addr} (I : Inv X pins σ H s) (e : H a = some (.dK [])) : Inv X pins σ (upd H a (.dT [])) s := by
  obtain ⟨z, hd, vs, rel, o, es, ep, h1, h2, h3, h4, h5, h6⟩ := (show ObjOk X.prog X.w H s.heap a (.dK []) from I.hok a _ e)
  cases rel
  have h7 : es.toList = [] := List.length_eq_zero_iff.mp (PySem.Pairs.length h5)
  exact d_write (t' := s.toks) I (by rw [e]; trivial) ⟨rfl, fun _ _ => rfl⟩ ⟨_, h1⟩ ⟨Nat.zero_le _, hd, [], Paired.nil, o, es, ep, h1, h2, h3, h7, List.nodup_nil⟩
/-- d[y] = v, y a tuple, d maybe empty -/
theorem ps_dputE {X : Cx} {o i value : Expr} {td ty tv : TE} {pos pos' : Pos} (hu : X.A.units + 1 < cLine) (ho : PE X o td) (hi : PE X i ty) (hv : PE X value tv) (hs : swapsWith value (some (.Subscript o i pos')) pos.line X.env = pure false) :
    PS X (.Assign [.Subscript o i pos'] value pos) (fun D σ H => tv σ H fun v H1 => td σ H1 fun x H2 => ty σ H2 fun y H3 => ∃ (a b : Addr) (k : List Key) (kvs : List (List Key × V)), x = .ref a ∧ y = .ref b ∧ H3 b = some (.tup (k.map kV)) ∧
      (H3 a = some (.dT kvs) ∨ (kvs = [] ∧ H3 a = some (.dK []))) ∧ kvs.length < sizeLine ∧ D.nx σ (upd H3 a (.dT (putK kvs k v)))) := by
  refine ⟨fun pins s σ H D I h => ?_⟩
  refine wpAny_Assign_Subscript (thn (hv.run pins s σ H _ I h) fun r s1 ⟨v, H1, I1, rv, q1⟩ => thn (ho.run pins s1 σ H1 _ I1 q1) fun u s2 ⟨x, H2, I2, rx, q2⟩ => thn (hi.run pins s2 σ H2 _ I2 q2) fun iv s3 ⟨y, H3, I3, ry, a, b, k, kvs, ex, ey, eb, ea, hl, q3⟩ => ?_) hs
  subst ex; subst ey
  obtain rfl : u = Value.ref a := rx
  rcases ea with ea | ⟨rfl, ea⟩
  · exact d_setItem hu I3 (DPut.t ea eb hl) ry rv fun s4 I4 => ⟨σ, _, I4, q3⟩
  · have ne : b ≠ a := fun z => by
      subst z
      rw [eb] at ea
      cases ea
    exact d_setItem hu (I3.emptyT ea) (DPut.t upd_same (by rw [upd_ne ne]; exact eb) hl) ry rv fun s4 I4 => ⟨σ, _, I4, by rw [upd_upd]; exact q3⟩
end L2
namespace DL
open PySem PySem.Spec PyProof.Rows L2
section
variable {X : Cx} {C : Cn} {G H : Hp} {ρ : Env} {σ : L2.St} {c1 c2 : Nat} {e ie ve : Expr} {fe fi fv : W1} {x : Str} {p p2 pos pos' : Pos}
/-- {} -/
theorem de_dnew : DE X C 0 (.Dict [] [] pos) (fun _ P _ => P (.fr false (.dict []))) := by
  refine PE.imp pe_dnewT ?_
  rintro σ H Q ⟨G, ρ, P, R, hf, kt⟩
  intro a na
  exact kt _ _ G _ hf (StepN.alloc R.ok na) ⟨⟨a, rfl, R.ok.notHid (fr0_none na), R.ok.noG na, .inr ⟨[], upd_same, .nil⟩⟩, fun _ _ _ q e => by cases e; exact fr0_none na⟩
theorem IsL.erase {K : PySem.W.Frag} {k : Bool} {H : Hp} : ∀ {v : List V} {d : List D} (i : Nat), IsL K k H v d → IsL K k H (v.eraseIdx i) (d.eraseIdx i)
  | _, _, _, .nil => .nil
  | _, _, 0, .cons _ t => t
  | _, _, i + 1, .cons a t => .cons a (IsL.erase i t)
def intP (s : SV) (P : Int → Prop) : Prop := match s with
  | .d _ (.int j) => P j
  | _ => False
/-- x.pop(i) -/
theorem ds_popAt {ap cp : Pos} (i : Nat) (he : DE X C c1 e fe) (hN : X.N[i]? = some x := by rfl)
    (hb : ∀ {r : V → List V → Hp → VK → Prop}, MtR X "list.pop" r → PE X (.Call (.Attribute (.Name x p) "pop" ap) [e] [] cp) (tBM X.K "list" r (tVar i) (tCons (TD C c1 fe) tNil)))
    (hs : swapsWith (.Call (.Attribute (.Name x p) "pop" ap) [e] [] cp) none pos.line X.env = pure false := by rfl) :
    DS X C c1 (.Expr (.Call (.Attribute (.Name x p) "pop" ap) [e] [] cp) pos) (fun ρ N E => getE ρ i fun s => ownL s fun k xs => fe ρ (fun v => intP v fun j => ∃ n, ixN xs.length j = some n ∧ N.nx (ρ.set i (some (.own k (.list (xs.eraseIdx n)))))) E) := by
  refine PS.imp (ps_expr (hb mt_popAt) hs) ?_
  rintro D σ H ⟨G, ρ, N, R, h, ok⟩
  obtain ⟨s, es, q⟩ := getE_some h
  obtain ⟨k, xs, rfl, q⟩ := ownL_is q
  obtain ⟨a, ea, vs, w, hl, il⟩ := own_get R.toRel es
  refine ⟨_, ea, .inl ⟨rfl, vs, SqL.of w⟩, G, ρ, _, R, q, fun s v G' H' q S V => ?_⟩
  unfold intP at q
  split at q
  · rename_i kk j
    obtain ⟨V, _⟩ := V
    cases V
    obtain ⟨n, hn, nx⟩ := q
    have R2 := R.toRel.step S.toStep
    obtain ⟨a2, ea2, vs2, w2, hl2, il2⟩ := own_get R2 es
    rw [ea] at ea2; cases ea2
    rw [← il2.length] at hn
    obtain ⟨i1, i2, i3, i4⟩ := ixN_seq hn
    have hz : sizeLine = 16777216 := sizeLine_eq
    refine ⟨a, vs2, j, n, vs2[n], rfl, rfl, w2, by omega, by omega, i1, List.getElem?_eq_getElem i2, ?_⟩
    refine ok.nx G' _ σ _ S.sub (S.gr.trans S.ok (own_gr R2 es ea)) nx (R2.write es ea ⟨vs2.eraseIdx n, upd_same, Nat.le_trans (List.length_eraseIdx_le _ _) hl2, il2.erase n⟩)
  · exact q.elim
/-- x[i] = v, x a list -/
theorem ds_setItem (i : Nat) (n : NameOk X i x) (hi : DE X C c2 ie fi) (hv : DE X C c1 ve fv)
    (ha : ∀ v, assign (.Subscript (.Name x p) ie p2) X.env v = (do
      let ov ← holding [v] (eval (.Name x p) X.env)
      let iv ← holding [v, ov] (eval ie X.env)
      standAt p2
      holding [v, ov, iv] (setItem ov iv v)
      release [v, ov, iv] []) := by intro _; rfl)
    (hs : swapsWithSole [.Subscript (.Name x p) ie p2] ve pos.line X.env = pure false := by rfl) (hw : swappedStores [.Subscript (.Name x p) ie p2] ve X.env = pure none := by rfl) (h1 : (assignEach [.Subscript (.Name x p) ie p2] X.env).map (·.2) = [assign (.Subscript (.Name x p) ie p2) X.env] := by rfl) :
    DS X C (c1 + c2) (.Assign [.Subscript (.Name x p) ie p2] ve pos) (fun ρ N E => fv ρ (fun v => keepW v fun t => datW t fun k' y => getE ρ i fun s => ownL s fun k xs => fi ρ (fun v => intP v fun j => ∃ m, ixN xs.length j = some m ∧ N.nx (ρ.set i (some (.own (k || k') (.list (xs.set m y)))))) E) E) := by
  refine PS.imp (ps_asg hv (pg_sub (pe_var n.1 n.2.1 n.2.2.1 n.2.2.2) hi set_list ha) hs hw h1) ?_
  rintro D σ H ⟨G, ρ, N, R, h, ok⟩
  refine ⟨G, ρ, _, R.l, h, fun v u G1 H1 q S V => ?_⟩
  obtain ⟨G2, t, S2, V2, n1, n2, q2⟩ := keep_is S V q
  obtain ⟨k', y, rfl, q3⟩ := datW_is q2
  obtain ⟨s, es, q4⟩ := getE_some q3
  obtain ⟨k, xs, rfl, q5⟩ := ownL_is q4
  have R2 := R.next S2
  obtain ⟨a, ea, vs, w, hl, il⟩ := own_get R2.toRel es
  refine ⟨_, ea, G2, ρ, _, R2, q5, fun j uj G3 H3 q6 S3 V3 => ?_⟩
  unfold intP at q6
  split at q6
  · rename_i kk j
    obtain ⟨V3, _⟩ := V3
    cases V3
    obtain ⟨m, hm, nx⟩ := q6
    have R3 := R2.toRel.step S3.toStep
    obtain ⟨a3, ea3, vs3, w3, hl3, il3⟩ := own_get R3 es
    rw [ea] at ea3; cases ea3
    have V4 : Is C.K k' G3 u y := V2.step S3
    refine ⟨a, vs3, j, m, rfl, rfl, w3, by rw [il3.length]; exact hm, ?_⟩
    refine ok.nx G3 _ σ _ (S2.sub.trans S3.sub) ((S2.gr.trans S2.ok S3.gr).trans S3.ok (own_gr R3 es ea)) nx (R3.write es ea ⟨vs3.set m u, upd_same, by rw [List.length_set]; exact hl3, ?_⟩)
    exact (il3.k or_l).set (Is.k or_r V4) m
  · exact q6.elim
def ownD (s : SV) (P : Bool → List (D × D) → Prop) : Prop := match s with
  | .own k (.dict kds) => P k kds
  | _ => False
/-- x[y] = v, y a tuple -/
theorem ds_putT (i : Nat) (xc : XC X C) (n : NameOk X i x) (hi : DE X C c2 ie fi) (hv : DE X C c1 ve fv) (hs : swapsWith ve (some (.Subscript (.Name x p) ie p2)) pos.line X.env = pure false := by rfl) :
    DS X C (c1 + c2) (.Assign [.Subscript (.Name x p) ie p2] ve pos) (fun ρ N E => fv ρ (fun v => keepW v fun t => datW t fun k' z => getE ρ i fun s => ownD s fun k kds => fi ρ (fun y => keepW y fun y => keyTW y fun ks => (kds.all fun p => (key? p.1).isNone) = true ∧ kds.length < sizeLine ∧ N.nx (ρ.set i (some (.own (k || k') (.dict (putD kds (.tuple (ks.map kD)) z)))))) E) E) := by
  obtain ⟨kr, hr⟩ := xc.room
  refine PS.imp (ps_dputE (by have := hr.un; omega) (pe_var n.1 n.2.1 n.2.2.1 n.2.2.2) hi hv hs) ?_
  rintro D σ H ⟨G, ρ, N, R, h, ok⟩
  refine ⟨G, ρ, _, R.l, h, fun v u G1 H1 q S U => ?_⟩
  obtain ⟨G2, t, S2, V2, n1, n2, q2⟩ := keep_is S U q
  obtain ⟨k', z, rfl, q3⟩ := datW_is q2
  obtain ⟨s, es, q4⟩ := getE_some q3
  unfold ownD at q4
  split at q4
  · rename_i k kds
    have R2 := R.next S2
    obtain ⟨a, ea, _⟩ := own_get R2.toRel es
    refine ⟨_, ea, G2, ρ, _, R2, q4, fun y uy G3 H3 q6 S3 V3 => ?_⟩
    obtain ⟨G4, t4, S4, V4, m1, m2, q7⟩ := keep_is S3 V3 q6
    obtain ⟨ks, b, ⟨hk, hl, nx⟩, rfl, eb⟩ := keyTW_is q7 V4
    have R3 := R2.toRel.step S4.toStep
    obtain ⟨a3, ea3, ow⟩ := own_get R3 es
    rw [ea] at ea3; cases ea3
    have V5 : Is C.K k' G4 u z := V2.step S4
    have hb := R3.ok.sub _ _ eb
    obtain ⟨kvs, e3, il⟩ : ∃ kvs : List (List Key × V), (H3 a = some (.dT kvs) ∨ (kvs = [] ∧ H3 a = some (.dK []))) ∧ IsDT C.K k G4 kvs kds := by
      rcases ow with ⟨kvs, e1, il⟩ | ⟨kvs, e1, il⟩
      · obtain ⟨rfl, rfl⟩ := IsDT.nil_of il hk
        exact ⟨[], .inr ⟨rfl, e1⟩, .nil⟩
      · exact ⟨kvs, .inl e1, il⟩
    refine ⟨a, b, ks, kvs, rfl, rfl, hb, e3, by rw [il.length]; exact hl, ?_⟩
    refine ok.nx G4 _ σ _ (S2.sub.trans S4.sub) ((S2.gr.trans S2.ok S4.gr).trans S4.ok (own_gr R3 es ea)) nx (R3.write es ea (.inr ⟨putK kvs ks u, upd_same, ?_⟩))
    exact (il.k or_l).put ks (Is.k or_r V5)
  · exact q4.elim
/-- list(d), the keys tuples -/
def listDW : O1 := fun ss P => match ss with
  | [s] => match dv s with
    | some kds => (kds.all fun p => (key? p.1).isNone) = true ∧ P (.fr false (.list (kds.map (·.1))))
    | none => False
  | _ => False
theorem isL_keys {K : PySem.W.Frag} {k : Bool} {G : Hp} : ∀ ks : List Key, IsL K k G (ks.map kV) (ks.map kD)
  | [] => .nil
  | .inl i :: r => .cons (.int i) (isL_keys r)
  | .inr i :: r => .cons (.str i) (isL_keys r)
theorem keys_in {H : Hp} {kvs : List (List Key × V)} {bs : List Addr} (ik : IsKeys H kvs bs) : ∀ q ∈ (kvs.zip bs).map (fun z => (z.2, z.1.1.map kV)), H q.1 = some (.tup q.2) := by
  unfold IsKeys at ik
  induction ik with
  | nil => intro q m; cases m
  | cons h t ih =>
    intro q m
    rcases List.mem_cons.mp m with e | m
    · subst e; exact h
    · exact ih q m
theorem keys_list {K : PySem.W.Frag} {k : Bool} {H G G2 : Hp} : ∀ {kvs : List (List Key × V)} {kds : List (D × D)} {bs : List Addr}, IsDT K k G kvs kds → IsKeys H kvs bs → (∀ q ∈ (kvs.zip bs).map (fun z => (z.2, z.1.1.map kV)), G2 q.1 = some (.tup q.2)) → (∀ z ∈ kvs, z.1.length ≤ sizeLine) → IsL K false G2 (bs.map V.ref) (kds.map (·.1))
  | _, _, _, .nil, .nil, _, _ => .nil
  | _, _, _, @IsDT.cons _ _ _ y v r d rd a b, @Paired.cons _ _ _ _ bb _ bs h t, hG, hz => by
    have ih := keys_list (bs := bs) b t (fun q m => hG q (List.mem_cons_of_mem _ m)) fun z m => hz z (List.mem_cons_of_mem _ m)
    refine .cons (.tup (hG (bb, y.map kV) List.mem_cons_self) (by rw [List.length_map]; exact hz (y, v) List.mem_cons_self) ?_) ih
    exact isL_keys y
theorem dcall_listDT (xc : XC X C) : DCall X C (.type "list") listDW := by
  intro pins s σ H vs us Q I rv h
  obtain ⟨G, ss, P, w, iv, h, kt⟩ := h
  unfold listDW at h
  split at h
  · obtain ⟨v, ev, jv⟩ := iv.one
    subst ev
    split at h
    · rename_i kds e1
      obtain ⟨hk, h⟩ := h
      obtain ⟨a, rfl, hd⟩ := dv_is e1 w jv
      rcases hd with ⟨kvs, q1, h2⟩ | ⟨kvs, h1, h2⟩
      · obtain ⟨rfl, rfl⟩ := IsDT.nil_of h2 hk
        exact call_listD xc.calm pins s σ H _ us Q I rv ⟨a, [], rfl, q1, rD_fr w kt h (Nat.zero_le _) .nil⟩
      · refine call_list_dT xc.calm pins s σ H _ us Q I rv ⟨a, kvs, rfl, .inl h1, fun p bs np ik => ?_⟩
        obtain ⟨z, _⟩ := (show ObjOk X.prog X.w H s.heap a (.dT kvs) from I.hok a _ h1)
        have lb : bs.length = kvs.length := (Paired.length ik).symm
        have inH := keys_in ik
        have inZ : ∀ z ∈ kvs, z.1.length ≤ sizeLine := by
          intro z hz
          obtain ⟨j, hj⟩ := List.getElem?_of_mem hz
          have hb : ∃ b, (z, b) ∈ kvs.zip bs := by
            have hj2 : j < bs.length := by
              have := (List.getElem?_eq_some_iff.mp hj).1
              omega
            refine ⟨bs[j], List.mem_of_getElem? (i := j) ?_⟩
            rw [List.getElem?_zip_eq_some]
            exact ⟨hj, List.getElem?_eq_getElem hj2⟩
          obtain ⟨b, hb⟩ := hb
          have e := inH (b, z.1.map kV) (List.mem_map.mpr ⟨(z, b), hb, rfl⟩)
          have := (show ObjOk X.prog X.w H s.heap b (.tup (z.1.map kV)) from I.hok b _ e).1
          rwa [List.length_map] at this
        obtain ⟨G2, S, hG⟩ := Step.frzTs w _ inH
        have SN : StepN C.toBs 0 G H G2 H := ⟨S, Gr.refl⟩
        refine kt _ _ G2 _ h (SN.trans (StepN.alloc S.ok np)) ⟨⟨p, rfl, w.notHid (fr0_none np), S.ok.noG np, _, upd_same, by rw [List.length_map]; omega, keys_list h2 ik hG inZ⟩, fun _ _ _ q e => by cases e; exact fr0_none np⟩
    · exact h.elim
  · exact h.elim
/-- sorted(xs), xs of pairs of ints -/
def pairL : List D → Option (List (Int × Int))
  | [] => some []
  | d :: r => match pairK d, pairL r with
    | some q, some qs => some (q :: qs)
    | _, _ => none
def sortPW : O1 := fun ss P => match ss with
  | [s] => match lv s with
    | some xs => flg s = false ∧ ∃ ps, pairL xs = some ps ∧ ∀ qs : List (Int × Int), qs.Perm ps → qs.Pairwise (fun p q => SrtO.lexB q p = false) → P (.fr false (.list (qs.map pairD)))
    | none => False
  | _ => False
def pairV (G : Hp) (v : V) : Int × Int := match v with
  | .ref b => match G b with
    | some (.tup [.int x, .int y]) => (x, y)
    | _ => (0, 0)
  | _ => (0, 0)
theorem pairL_is {K : PySem.W.Frag} {G : Hp} : ∀ {vs : List V} {xs : List D} {ps : List (Int × Int)}, IsL K false G vs xs → pairL xs = some ps → vs.map (pairV G) = ps ∧ ∀ v ∈ vs, ∃ t, v = .ref t ∧ G t = some (.tup [.int (pairV G v).1, .int (pairV G v).2])
  | _, _, _, .nil, e => by cases e; exact ⟨rfl, fun _ h => nomatch h⟩
  | _, _, _, @IsL.cons _ _ _ v vs d ds a b, e => by
    unfold pairL at e
    split at e
    · rename_i q qs e1 e2
      cases e
      obtain ⟨h1, h2⟩ := pairL_is b e2
      have hd : ∃ x y : Int, d = .tuple [.int x, .int y] ∧ q = (x, y) := by
        unfold pairK at e1
        split at e1
        · cases e1; exact ⟨_, _, rfl, rfl⟩
        · cases e1
      obtain ⟨x, y, rfl, rfl⟩ := hd
      cases a with
      | tup g l i =>
        rename_i t ws
        have ew : ws = [V.int x, V.int y] := IsL.ints_eq (ns := [x, y]) i
        subst ew
        have ev : pairV G (.ref t) = (x, y) := by
          show (match G t with | some (.tup [.int x, .int y]) => (x, y) | _ => (0, 0)) = _
          rw [g]
        refine ⟨by rw [List.map_cons, ev, h1], fun u hu => ?_⟩
        rcases List.mem_cons.mp hu with e | hu
        · subst e
          rw [ev]
          exact ⟨t, rfl, g⟩
        · exact h2 u hu
      | tupK q => cases q
    · cases e
theorem dcall_sortedP (xc : XC X C) : DCall X C (.builtin "sorted") sortPW := by
  intro pins s σ H vs us Q I rv h
  obtain ⟨G, ss, P, w, iv, h, kt⟩ := h
  unfold sortPW at h
  split at h
  · obtain ⟨v, ev, jv⟩ := iv.one
    subst ev
    split at h
    · rename_i xs e1
      obtain ⟨hf, ps, ep, h⟩ := h
      obtain ⟨a, vs, rfl, h1, i1, z1⟩ := lv_is e1 w jv
      rw [hf] at i1
      obtain ⟨k1, k2⟩ := pairL_is i1 ep
      refine cr_sortedPO pins s σ H _ us Q I rv ⟨a, vs, pairV G, rfl, SqL.of h1, fun x hx => ?_, fun ys p hs hb hn => ?_⟩
      · obtain ⟨t, e, g⟩ := k2 x hx
        exact ⟨t, e, w.sub _ _ g⟩
      · have pq : (ys.map (pairV G)).Perm ps := by rw [← k1]; exact hb.perm.map _
        have pw : (ys.map (pairV G)).Pairwise (fun p q => SrtO.lexB q p = false) := List.pairwise_map.mpr hs
        refine rD_fr w kt (h _ pq pw) (by rw [hb.perm.length_eq]; exact z1) ?_ p hn
        have main : ∀ l : List V, (∀ v ∈ l, v ∈ vs) → IsL C.K false G l ((l.map (pairV G)).map DL.pairD) := by
          intro l
          induction l with
          | nil => intro _; exact .nil
          | cons v l ih =>
            intro hl
            obtain ⟨t, e, g⟩ := k2 v (hl v List.mem_cons_self)
            refine .cons ?_ (ih fun u hu => hl u (List.mem_cons_of_mem _ hu))
            rw [e]
            rw [e] at g
            exact .tup g (by show 2 ≤ sizeLine; rw [sizeLine_eq]; decide) (.cons (.int _) (.cons (.int _) .nil))
        exact main ys fun v hv => hb.perm.mem_iff.mp hv
    · exact h.elim
  · exact h.elim
/-- < of tuples of ints -/
def ltTW : O2 := fun a b P => match tv a, tv b with
  | some xs, some ys => ∃ ns ms, ints? xs = some ns ∧ ints? ys = some ms ∧ P (.d false (.bool (HT.lexLt ns ms)))
  | _, _ => False
theorem dop_ltT (xc : XC X C) : DOp X C (compareOp .Lt) ltTW := by
  obtain ⟨kr, hr⟩ := xc.room
  intro pins s σ H x y v u Q I rx ry h
  obtain ⟨G, a, b, P, w, ia, ib, h, kt⟩ := h
  unfold ltTW at h
  split at h
  · rename_i xs ys e1 e2
    obtain ⟨ns, ms, h1, h2, h⟩ := h
    obtain ⟨p1, vs, rfl, s1, i1, _, _⟩ := tv_is e1 w ia
    obtain ⟨q1, ws, rfl, s2, i2, _, _⟩ := tv_is e2 w ib
    have f1 := ints_of h1
    have f2 := ints_of h2
    subst f1; subst f2
    rw [i1.ints_eq] at s1
    rw [i2.ints_eq] at s2
    exact op_ltT (by have := hr.un; omega) pins s σ H _ _ v u Q I rx ry ⟨p1, q1, ns, ms, rfl, rfl, by rw [xc.K]; exact s1, by rw [xc.K]; exact s2, rD_ret w kt h (.bl _)⟩
  · exact h.elim
end
/-! ## a chain as a test -/
section
variable {X : Cx} {C : Cn} {a b c : Expr} {fa fb fc : W1} {h h' : O2} {c1 c2 c3 : Nat} {pos : Pos}
theorem dt_chain {op op' : CmpOp} (ho : DOp X C (compareOp op) h) (ho' : DOp X C (compareOp op') h') (ha : DE X C c1 a fa) (hb : DE X C c2 b fb) (hc : DE X C c3 c fc)
    (hm : lastMarks [op, op'] [b, c] = false := by with_unfolding_all rfl) : DT X C (c1 + (c2 + c3)) (.Compare a [op, op'] [b, c] pos) (fun ρ P E => chain2 h h' fa fb fc ρ (fun s => boolP s P) E) := by
  refine PT.imp (pt_chain ho ho' ha hb hc hm) ?_
  rintro σ H Q ⟨G, ρ, P, R, hf, kk⟩
  have k : ∀ sv v G' H', boolP sv P → StepN C.toBs (c1 + (c2 + c3)) G H G' H' → IsR C.toBs H G' H' v sv → ∃ t, v = .bl t ∧ Q t H' := fun sv v G' H' p S V => by
    obtain ⟨_, t, rfl, q⟩ := boolP_some p
    obtain ⟨V, _⟩ := V
    cases V
    exact ⟨t, rfl, kk t G' H' q S⟩
  refine ⟨G, ρ, _, R.l, hf, fun a x G1 H1 hb S1 V1 => ⟨G1, ρ, _, (R.next S1).l, hb, fun b y G2 H2 hh S2 V2 => ?_⟩⟩
  refine ⟨G2, a, b, _, S2.ok, V1.1.step S2, V2.1, hh, fun sv v G3 H3 p S3 V3 => ?_⟩
  obtain ⟨_, t, rfl, q⟩ := boolP_some p
  obtain ⟨V3, _⟩ := V3
  cases V3
  refine ⟨t, rfl, ?_⟩
  cases t with
  | false => exact k (.d false (.bool false)) _ G3 H3 q ((S1.trans (S2.trans S3)).le (by omega)) (.d (.bl false))
  | true =>
    rw [if_pos rfl] at q ⊢
    refine ⟨G3, ρ, _, (R.next S1).next (S2.trans S3), q, fun c z G4 H4 hh4 S4 V4 => ?_⟩
    exact ⟨G4, b, c, _, S4.ok, (V2.1.step S3).step S4, V4.1, hh4, fun sv v G5 H5 p S5 V5 => k sv v G5 H5 p ((S1.trans (S2.trans (S3.trans (S4.trans S5)))).le (by omega)) (V5.lower (S1.trans (S2.trans (S3.trans S4))))⟩
end
/-! ## a dict lent to a def -/
def rem (G : Hp) (p : Addr) : Hp := fun x => if x = p then none else G x
theorem rem_ne {G : Hp} {p x : Addr} (h : x ≠ p) : rem G p x = G x := if_neg h
theorem rem_same {G : Hp} {p : Addr} : rem G p p = none := if_pos rfl
theorem rem_of {G : Hp} {p x : Addr} {u : HO} (h : rem G p x = some u) : G x = some u ∧ x ≠ p := by
  by_cases e : x = p
  · subst e; rw [rem_same] at h; cases h
  · rw [rem_ne e] at h; exact ⟨h, e⟩
/-- what is lent: a dict's object -/
def dictO : HO → Bool
  | .dK _ => true
  | .dT _ => true
  | _ => false
section
variable {K : PySem.W.Frag} {k : Bool} {G : Hp} {p : Addr} {o : HO}
theorem rem_lst (hp : G p = some o) (ho : dictO o = true) {a : Addr} {u : HO} (h : G a = some u) (hu : dictO u = false) : rem G p a = some u := by
  rw [rem_ne]
  · exact h
  · rintro rfl
    rw [hp] at h
    cases h
    rw [ho] at hu
    cases hu
theorem SqT.rem (hp : G p = some o) (ho : dictO o = true) {a : Addr} {xs : List V} (h : SqT K G a xs) : SqT K (DL.rem G p) a xs := by
  rcases h with (h | ⟨u, h⟩) | h
  · exact .inl (.inl (rem_lst hp ho h rfl))
  · exact .inl (.inr ⟨u, rem_lst hp ho h rfl⟩)
  · exact .inr h
mutual
theorem Is.rem (hp : G p = some o) (ho : dictO o = true) : ∀ {v : V} {d : D}, Is K k G v d → d.hasDict = false → Is K k (rem G p) v d
  | _, _, .non, _ => .non
  | _, _, .bl b, _ => .bl b
  | _, _, .int i, _ => .int i
  | _, _, .str x, _ => .str x
  | _, _, .lst h l r, f => .lst (rem_lst hp ho h rfl) l (IsL.rem hp ho r (by simpa [PyData.hasDict] using f))
  | _, _, .tup h l r, f => .tup (rem_lst hp ho h rfl) l (IsL.rem hp ho r (by simpa [PyData.hasDict] using f))
  | _, _, .tupK q h l r, f => .tupK q (SqT.rem hp ho h) l (IsL.rem hp ho r (by simpa [PyData.hasDict] using f))
  | _, _, .dct _ _, f => by simp [PyData.hasDict] at f
  | _, _, .dctT _ _, f => by simp [PyData.hasDict] at f
theorem IsL.rem (hp : G p = some o) (ho : dictO o = true) : ∀ {v : List V} {d : List D}, IsL K k G v d → PyData.hasDictAll d = false → IsL K k (rem G p) v d
  | _, _, .nil, _ => .nil
  | _ :: _, d :: ds, .cons a b, f => by
    have f' : d.hasDict = false ∧ PyData.hasDictAll ds = false := by simpa [PyData.hasDictAll] using f
    exact .cons (Is.rem hp ho a f'.1) (IsL.rem hp ho b f'.2)
end
theorem SqL.rem (hp : G p = some o) (ho : dictO o = true) {a : Addr} {xs : List V} (h : SqL K G a xs) : SqL K (DL.rem G p) a xs := by
  rcases h with (h | ⟨u, h⟩) | h
  · exact .inl (.inl (rem_lst hp ho h rfl))
  · exact .inl (.inr ⟨u, rem_lst hp ho h rfl⟩)
  · exact .inr h
end
section
variable {B : Bs} {n : Nat} {G H G' H' : Hp} {p : Addr} {o : HO}
theorem StepN.rem (S : StepN B n (upd G p o) H G' H') (w : WOk B G H) (hg : G p = none) (ho : dictO o = true) : StepN B n G H (rem G' p) H' := by
  have hp : G' p = some o := S.sub _ _ upd_same
  refine ⟨⟨fun x u e => ?_, w, ⟨fun x u e => S.ok.sub _ _ (rem_of e).1, fun x hx => ?_, fun a g e => ?_, S.ok.tab, fun b ps e => S.ok.gt b ps (rem_of e).1⟩, S.keep, fun x hx => ?_⟩, S.gr⟩
  · have ne : x ≠ p := fun z => by subst z; rw [hg] at e; cases e
    rw [rem_ne ne]
    exact S.sub _ _ (by rw [upd_ne ne]; exact e)
  · by_cases e : x = p
    · subst e; exact rem_same
    · rw [rem_ne e]; exact S.ok.hidG x hx
  · obtain ⟨h1, ⟨great, cells, rest, turn, c, q1, q2, q3, q4⟩⟩ := S.ok.st a g e
    exact ⟨h1, ⟨great, cells, rest, turn, c, q1, q2, SqL.rem hp ho q3, q4⟩⟩
  · by_cases e : x = p
    · subst e; exact absurd rem_same hx
    · rw [rem_ne e] at hx
      rcases S.new x hx with q | q
      · rw [upd_ne e] at q; exact .inl q
      · exact .inr q
end
def lendW (s : SV) (P : SV → Prop) : Prop := match s with
  | .own k (.dict kds) => P (.d k (.dict kds))
  | _ => False
def flatS (s : SV) : Prop := match s with
  | .fr _ x => x.hasDict = false ∧ ∃ ds, x = .list ds
  | .d _ x => x.hasDict = false
  | _ => False
section
variable {X : Cx} {C : Cn} {x y : Str} {p p2 pos : Pos} {gd : Bool} {c k : Nat} {f : FS} {z : Str}
/-- f(x), x a dict that is changed later; what f gives has no dict in it -/
theorem de_lend (i : Nat) (nm : NameOk X i y) (F : DFn X.prog X.w X.K X.mg X.base C.T gd c k x [z] f) (xc : XC X C) (hgd : gd = true → C.gd = true) (hr : Room k X.A) (hg : Gl X x := by rfl) (hdb : (x == ("__debug__" : Str)) = false := by decide)
    (he : starEach [.Name y p2] X.env = (false, eval (.Name y p2) X.env) :: starEach [] X.env := by rfl) (hpl : (backTo pos (starEach [] X.env)).any (·.1) = false := by rfl) :
    DE X C c (.Call (.Name x p) [.Name y p2] [] pos) (fun ρ P E => getE ρ i fun s => lendW s fun t => f [t] (fun r => flatS r ∧ P r) E) := by
  obtain ⟨a, fd, F, hm, hk, hb, _⟩ := F.ex
  refine ⟨fun pins s σ H Q I h => ?_⟩
  obtain ⟨G, ρ, P, R, hf, kt⟩ := h
  obtain ⟨sv, es, q⟩ := getE_some hf
  unfold lendW at q
  split at q
  · rename_i kk kds
    obtain ⟨o9, hs9, _⟩ := R.slots
    obtain ⟨v, ev, ed, nh, gn, f0, ow⟩ := hs9 i _ es
    subst ed
    have pv : PA X [.Name y p2] (tCons (tVar i) tNil) := pa_cons (pe_var nm.1 nm.2.1 nm.2.2.1 nm.2.2.2) pa_nil he
    have run := pv.run pos pins s σ H (fun vs H1 => vs = [.ref (o9 i)] ∧ H1 = H) I ⟨_, ev, rfl, rfl⟩
    refine wpAny_Call_Name_kw (ld_glob I hg hm ?_ hdb)
    refine PySem.W.callWith_K (h₀ := X.base) I.ok.mod.kin hk (thn run fun us s1 ⟨vs, H1, I1, r, e1, e2⟩ => ⟨I1.kIn, ?_⟩) he hpl
    subst e1; subst e2
    refine callG F (fun h => xc.guards (hgd h)) hr xc.pass hb I1 r ?_
    obtain ⟨u, hu, hd, iu⟩ : ∃ u, H1 (o9 i) = some u ∧ dictO u = true ∧ Is C.K kk (upd G (o9 i) u) (.ref (o9 i)) (.dict kds) := by
      rcases ow with ⟨kvs, e, il⟩ | ⟨kvs, e, il⟩
      · exact ⟨_, e, rfl, .dct (.inl upd_same) (il.mono (same_upd gn))⟩
      · exact ⟨_, e, rfl, .dctT upd_same (il.mono (same_upd gn))⟩
    have w := R.ok
    have wp : WOk C.toBs (upd G (o9 i) u) H1 := (R.ent.frz f0 hu (by cases u <;> first | rfl | cases hd) nh gn).ok
    refine ⟨C.toBs, upd G (o9 i) u, [.d kk (.dict kds)], _, C.ex, xc.K.symm, xc.mg.symm, rfl, R.capNow, wp, .cons iu (fun _ _ => SV.noConfusion) (fun _ _ => SV.noConfusion) .nil, rfl, q, fun s v G' H' q S2 V2 no => ?_, fun nm c G' H' q m S2 => xc.link nm c (rem G' (o9 i)) H' q (by rw [← xc.mg]; exact m) (R.out (S2.rem w gn hd))⟩
    obtain ⟨fl, q⟩ := q
    refine kt s v (rem G' (o9 i)) H' q (S2.rem w gn hd) ?_
    have hp : G' (o9 i) = some u := S2.sub _ _ upd_same
    unfold flatS at fl
    split at fl
    · rename_i k2 d2
      obtain ⟨⟨pp, rfl, nh2, g2, ow2⟩, fr2⟩ := V2
      obtain ⟨fl, ds, rfl⟩ := fl
      obtain ⟨vs2, e2, l2, i2⟩ := ow2
      refine ⟨⟨pp, rfl, nh2, ?_, vs2, e2, l2, IsL.rem hp hd i2 (by simpa [PyData.hasDict] using fl)⟩, fr2⟩
      by_cases e : pp = o9 i
      · subst e; exact rem_same
      · rw [rem_ne e]; exact g2
    · rename_i k2 d2
      obtain ⟨V2, fr2⟩ := V2
      exact ⟨Is.rem hp hd V2 fl, fr2⟩
    · exact fl.elim
  · exact q.elim
end
end DL
set_option Elab.async false
set_option linter.all false
set_option maxRecDepth 100000
set_option maxHeartbeats 1000000
namespace DL
open PySem PySem.Spec PyProof.Rows L2
section
variable {X : Cx} {C : Cn} {G H : Hp} {ρ : Env} {σ : L2.St} {c1 c2 : Nat} {e a b : Expr} {fe fa fb : W1} {x : Str} {p pos : Pos}
def xorW : O2 := arW yes2 fun i j => Builtin.bitXor i j
theorem dop_xor : DOp X C (binaryOp .BitXor) xorW := dop_ar0 op_xor
/-- x += e, x *= e of ints -/
theorem dip_add : DOp X C (inplaceOp .Add) (arW yes2 fun i j => i + j) := dop_ar0 iop_add
theorem dip_mul : DOp X C (inplaceOp .Mult) (arW CMul fun i j => i * j) := dop_ar iop_mul
theorem dip_sub : DOp X C (inplaceOp .Sub) (arW yes2 fun i j => i - j) := dop_ar0 iop_sub
theorem ds_aug {h : O2} {op : Operator} (i : Nat) (hNd : X.N.Nodup) (ho : DOp X C (inplaceOp op) h) (he : DE X C c1 e fe) (hi : X.N[i]? = some x := by rfl) (hx : Loc X.env.scope x := by first | exact Or.inl rfl | exact Or.inr rfl)
    (hf : X.fn x = true ∨ X.env.scope.names.lookup x = some .local := by first | exact .inl rfl | exact .inr rfl) :
    DS X C c1 (.AugAssign (.Name x p) op e pos) (fun ρ N E => getE ρ i fun s => fe ρ (fun t => h s t fun r => setW i r ρ N.nx) E) := by
  refine PS.imp (ps_aug hNd hi hx he ho hf) ?_
  rintro D σ H ⟨G, ρ, N, R, h, ok⟩
  obtain ⟨s, es, q⟩ := getE_some h
  obtain ⟨v, ev, iv, _⟩ := R.toRel.get es
  refine ⟨v, ev, G, ρ, _, R, q, fun t u G1 H1 q1 S V => ?_⟩
  refine ⟨G1, s, t, _, S.ok, iv.step S, V.1, q1, fun sv w G2 H2 pp S2 V2 => ?_⟩
  obtain ⟨ρ', n, R'⟩ := setW_is (R.toRel.step S.toStep) S2.toStep V2 pp
  exact ok.nx G2 ρ' _ H2 (S.sub.trans S2.sub) ((S.gr.trans S.ok S2.gr)) n R'
/-- gcd of math -/
def gcdW : O1 := fun ss P => match ss with
  | [.d _ (.int i), .d _ (.int j)] => P (.d false (.int ((Nat.gcd i.natAbs j.natAbs : Nat) : Int)))
  | _ => False
theorem dcall_gcd : DCall X C (.builtin "math.gcd") gcdW := by
  intro pins s σ H vs us Q I rv h
  obtain ⟨G, ss, P, w, iv, h, kt⟩ := h
  unfold gcdW at h
  split at h
  · obtain ⟨v, v', ev, V1, V2⟩ := iv.two
    subst ev
    cases V1; cases V2
    exact cr_gcd pins s σ H _ us Q I rv ⟨_, _, rfl, rD_ret w kt h (.int _)⟩
  · exact h.elim
theorem de_bf2 {h : O1} {id : String} (d : DCall X C (.builtin id) h) (hm : X.mg x = some (.builtin id)) (ha : DE X C c1 a fa) (hb : DE X C c2 b fb) (hg : Gl X x := by rfl) (hdb : (x == ("__debug__" : Str)) = false := by decide)
    (h1 : starEach [a, b] X.env = (false, eval a X.env) :: starEach [b] X.env := by rfl) (h2 : starEach [b] X.env = (false, eval b X.env) :: starEach [] X.env := by rfl) (hpl : (backTo pos (starEach [b] X.env)).any (·.1) = false := by rfl) :
    DE X C (c1 + c2) (.Call (.Name x p) [a, b] [] pos) (fun ρ P E => fa ρ (fun s => fb ρ (fun t => h [s, t] P) E) E) :=
  PE.imp (pe_callBfun d hg hm (pa_cons ha (pa_cons hb pa_nil h2) h1) hdb h1 hpl) td_b2
/-- is, is not of truths -/
def isBW (g : Bool → Bool) : O2 := fun a b P => match a, b with
  | .d _ (.bool x), .d _ (.bool y) => P (.d false (.bool (g (decide (x = y)))))
  | _, _ => False
theorem dop_isB : DOp X C (compareOp .Is) (isBW id) := by
  intro pins s σ H x y v u Q I rx ry h
  obtain ⟨G, a, b, P, w, ia, ib, h, kt⟩ := h
  unfold isBW at h
  split at h
  · cases ia; cases ib
    exact op_is_bl pins s σ H _ _ v u Q I rx ry ⟨_, _, rfl, rfl, rD_ret w kt h (.bl _)⟩
  · exact h.elim
theorem dop_isNotB : DOp X C (compareOp .IsNot) (isBW (!·)) := by
  intro pins s σ H x y v u Q I rx ry h
  obtain ⟨G, a, b, P, w, ia, ib, h, kt⟩ := h
  unfold isBW at h
  split at h
  · cases ia; cases ib
    exact op_isnot_bl pins s σ H _ _ v u Q I rx ry ⟨_, _, rfl, rfl, rD_ret w kt h (.bl _)⟩
  · exact h.elim
end
end DL
set_option Elab.async false
set_option linter.all false
set_option maxRecDepth 100000
set_option maxHeartbeats 1000000
namespace DL
open PySem PySem.Spec PyProof.Rows L2
/-! ## comprehensions of two loops -/
def comp2I (g1 : WG) (ft1 : WB) (fe : W1) : List SV → Env → Bool → List D → (Bool → List D → Prop) → Prop
  | [], _, k, acc, Nx => Nx k acc
  | s :: r, ρ, k, acc, Nx => g1 s ρ fun ρ' => ft1 ρ' (fun b => if b = true then fe ρ' (fun v => keepW v fun t => datW t fun k' y => acc.length < sizeLine ∧ comp2I g1 ft1 fe r ρ (k || k') (acc ++ [y]) Nx) (fun _ => False) else comp2I g1 ft1 fe r ρ k acc Nx) (fun _ => False)
def comp2W (g : WG) (ft : WB) (fi1 : WA) (g1 : WG) (ft1 : WB) (fe : W1) (vs1 : List Nat) : List SV → Env → Bool → List D → (SV → Prop) → Prop
  | [], _, k, acc, P => P (.fr k (.list acc))
  | s :: r, ρ, k, acc, P => g s ρ fun ρ' => ft ρ' (fun b => if b = true then fi1 ρ' (fun ss => comp2I g1 ft1 fe ss (maskE (wipeE ρ' vs1)) k acc fun k acc => comp2W g ft fi1 g1 ft1 fe vs1 r ρ k acc P) (fun _ => False) else comp2W g ft fi1 g1 ft1 fe vs1 r ρ k acc P) (fun _ => False)
theorem maskE_no {ρ : Env} {i : Nat} {k : Bool} {x : D} : (maskE ρ)[i]? ≠ some (some (.own k x)) := by
  unfold maskE
  rw [List.getElem?_map]
  intro h
  cases q : ρ[i]? with
  | none => rw [q] at h; cases h
  | some t =>
    rw [q] at h
    cases t with
    | none => cases h
    | some s => cases s <;> cases h
theorem maskE_sub {ρ : Env} (i : Nat) (s : SV) (h : (maskE ρ)[i]? = some (some s)) : ρ[i]? = some (some s) := by
  unfold maskE at h
  rw [List.getElem?_map] at h
  cases q : ρ[i]? with
  | none => rw [q] at h; cases h
  | some t =>
    rw [q] at h
    cases t with
    | none => cases h
    | some u => cases u <;> first | (cases h; rfl) | cases h
/-- all is kept but for what stands at D -/
structure Kp (B : Bs) (D : Addr) (G H G' H' : Hp) : Prop where
  sub : Same G G'
  keep : ∀ x o, H x = some o → ¬ hid B x → (∀ ps, o ≠ .tbl ps) → x ≠ D → H' x = some o
section
variable {B : Bs} {D : Addr} {G H G' H' G'' H'' : Hp}
theorem Kp.refl : Kp B D G H G H := ⟨Same.refl _, fun _ _ h _ _ _ => h⟩
theorem Kp.step (K : Kp B D G H G' H') (S : Step B G' H' G'' H'') : Kp B D G H G'' H'' := ⟨K.sub.trans S.sub, fun x o h n t ne => S.keep x o (K.keep x o h n t ne) n t⟩
theorem Kp.put (K : Kp B D G H G' H') (u : HO) : Kp B D G H G' (upd H' D u) := ⟨K.sub, fun x o h n t ne => by rw [upd_ne ne]; exact K.keep x o h n t ne⟩
end
theorem Rel.kept {C : Cn} {D : Addr} {G H G' H' : Hp} {ρ : Env} {σ : L2.St} {vs : List V} (R : Rel C G (maskE ρ) σ H) (ent : Step C.toBs C.G0 C.H0 G' H') (K : Kp C.toBs D G H G' H') (hD : H D = some (.lst vs)) : Rel C G' (maskE ρ) σ H' := by
  obtain ⟨o, h1, h2⟩ := R.slots
  refine ⟨ent, R.len, o, fun i s e => ?_, fun i j k k' x y e1 _ => absurd e1 maskE_no⟩
  obtain ⟨v, ev, q⟩ := h1 i s e
  refine ⟨v, ev, ?_⟩
  cases s with
  | own k x => exact absurd e maskE_no
  | fr k x => exact q
  | d k x => exact Is.mono K.sub q
  | st => exact q
  | scr ns => exact ScrO.same q K.sub
  | exc n =>
    obtain ⟨a, c, e1, m, q⟩ := q
    refine ⟨a, c, e1, m, K.keep a _ q (fun hh => ?_) (fun ps => ExcO_tbl ps) fun z => ?_⟩
    · obtain ⟨a', g', e', z⟩ := hh
      obtain ⟨_, ⟨great, cells, rest, turn, c', h1, h2, _⟩⟩ := R.ok.st a' g' e'
      rcases z with rfl | rfl
      · rw [q] at h1; cases h1
      · rw [q] at h2; cases h2
    · subst z
      rw [q] at hD
      cases hD
section
variable {X : Cx} {C : Cn} {elt tg iter tg1 iter1 : Expr} {ifs ifs1 : List Expr} {scope : Scope} {own : List (Str × Nat)} {vs1 : List Nat} {pos : Pos} {fi fi1 : WA} {g g1 : WG} {t t1 : TG} {ft ft1 : WB} {fe : W1}
theorem td_lc2 {c1 c2 c3 c4 c5 : Nat} {wi wi1 : TI} (q1 : ∀ σ H R, TDI C c1 fi σ H R → wi σ H R) (q2 : GSem C.quiet (own.map (·.2)) g t) (q3 : ∀ σ H R, TDI C.quiet c3 fi1 σ H R → wi1 σ H R) (q4 : GSem C.quiet vs1 g1 t1) :
    ∀ σ H Q, TD C (c1 + 16777216 * (c2 + (c3 + 16777216 * (c4 + c5)))) (fun ρ P E => fi ρ (fun ss => comp2W g ft fi1 g1 ft1 fe vs1 ss (wipeE ρ (own.map (·.2))) false [] P) E) σ H Q → tLc2 wi t (TDT C.quiet c2 ft) wi1 t1 (TDT C.quiet c4 ft1) (TD C.quiet c5 fe) (own.map (·.2)) vs1 σ H Q := by
  rintro σ H Q ⟨G, ρ, P, R, hf, kt⟩
  refine q1 σ H _ ⟨G, ρ, _, R.l, hf, fun ss G1 H1 J hc S it => fun D n => ?_⟩
  have R1 := (R.toRel.step S.toStep).wiped (own.map (·.2))
  have Rn := R.next S
  have sa := StepN.alloc (o := HO.lst []) S.ok n
  have len := it.len
  rw [sizeLine_eq] at len
  generalize hCI : c4 + c5 = CI at *
  generalize hCC : c2 + (c3 + 16777216 * CI) = CC at *
  refine ⟨fun i m H2 => m + i = ss.length ∧ Gr C.toBs (i * CC) H1 H2 ∧ ∃ G2 k acc ds, Lc C G1 H1 D G2 H2 k acc ds ∧ acc.length ≤ sizeLine ∧ comp2W g ft fi1 g1 ft1 fe vs1 (ss.drop i) (wipeE ρ (own.map (·.2))) k ds P, ⟨ss.length, by omega, by rw [Nat.zero_mul]; exact sa.gr, G1, false, [], [], ⟨sa.toStep, S.ok.noG n, upd_same, .nil⟩, Nat.zero_le _, by rw [List.drop_zero]; exact hc⟩, ?_⟩
  rintro i m H2 ⟨hm, gr, G2, k, acc, ds, L, hl, hc⟩
  by_cases hi : i < ss.length
  · have up : i * CC + CC ≤ 16777216 * CC := by
      have := Nat.mul_le_mul_right CC (show i + 1 ≤ 16777216 by omega)
      rw [Nat.succ_mul] at this
      exact this
    refine .inr ⟨it.go G2 H2 i L.st.sub L.st.ok hi, fun H3 => Gr C.toBs ((i + 1) * CC) H1 H3 ∧ ∃ G3 k acc ds, Lc C G1 H1 D G3 H3 k acc ds ∧ acc.length ≤ sizeLine ∧ comp2W g ft fi1 g1 ft1 fe vs1 (ss.drop (i + 1)) (wipeE ρ (own.map (·.2))) k ds P, ?_, ?_⟩
    · rintro H3 ⟨g3, G3, k, acc, ds, L, hl, hc⟩
      exact ⟨m - 1, by omega, by omega, g3, G3, k, acc, ds, L, hl, hc⟩
    · intro x H3 y
      obtain ⟨G3, S3, V3⟩ := it.yld G2 H2 i x H3 _ L.st.sub L.st.ok (List.getElem?_eq_getElem hi) y
      obtain ⟨n1, n2⟩ := it.keep _ (List.getElem_mem hi)
      have L3 := L.step n S3.toStep
      have g3 : Gr C.toBs (i * CC) H1 H3 := gr.trans L.st.ok S3.gr
      rw [List.drop_eq_getElem_cons hi] at hc
      refine q2 G3 _ _ H3 _ x _ _ (R1.step L3.st).quiet V3 n1 n2 hc fun ρ4 σ4 h4 R4 e4 => ?_
      have R5 : RelN C.quiet (c2 + (c3 + 16777216 * CI)) G3 ρ4 σ4 H3 := by
        rw [hCC]
        exact (Rn.le up).quiet.go g3 R4
      refine ⟨by rw [e4, wipe_wipe _ fun v hv => hv], G3, ρ4, _, R5.l, h4, fun b G5 H5 h5 S5 => ?_⟩
      have L5 := L3.step n S5.toStep
      cases b with
      | false =>
        have e5 : Gr C.toBs ((i + 1) * CC) H1 H5 := by
          rw [Nat.succ_mul]
          exact g3.trans L3.st.ok (S5.gr.le (by omega))
        exact ⟨e5, G5, k, acc, ds, L5, hl, h5⟩
      | true =>
        rw [if_pos rfl] at h5
        show wi1 σ4 H5 _
        have R6 := R5.next S5
        refine q3 σ4 H5 _ ⟨G5, ρ4, _, R6.l, h5, fun ss1 G6 H6 J1 hc1 S6 it1 => ?_⟩
        have L6 := L5.step n S6.toStep
        have R7 := R6.next S6
        have Rm : Rel C.quiet G6 (maskE (wipeE ρ4 vs1)) (wipe σ4 vs1) H6 := (R7.toRel.wiped vs1).weak (by unfold maskE; rw [List.length_map]) maskE_sub
        have g6 : Gr C.toBs (i * CC + (c2 + c3)) H1 H6 := g3.trans L3.st.ok (S5.gr.trans S5.ok S6.gr)
        have len1 := it1.len
        rw [sizeLine_eq] at len1
        refine ⟨fun j kk H7 => kk + j = ss1.length ∧ Gr C.toBs (i * CC + (c2 + c3) + j * CI) H1 H7 ∧ ∃ G7 k acc ds, Lc C G1 H1 D G7 H7 k acc ds ∧ acc.length ≤ sizeLine ∧ Kp C.toBs D G6 H6 G7 H7 ∧ comp2I g1 ft1 fe (ss1.drop j) (maskE (wipeE ρ4 vs1)) k ds (fun k acc => comp2W g ft fi1 g1 ft1 fe vs1 (ss.drop (i + 1)) (wipeE ρ (own.map (·.2))) k acc P),
          ⟨ss1.length, by omega, by rw [Nat.zero_mul, Nat.add_zero]; exact g6, G6, k, acc, ds, L6, hl, Kp.refl, by rw [List.drop_zero]; exact hc1⟩, ?_⟩
        rintro j kk H7 ⟨hm1, gr1, G7, k, acc, ds, L7, hl7, K7, hc7⟩
        by_cases hj : j < ss1.length
        · refine .inr ⟨it1.go G7 H7 j K7.sub L7.st.ok hj, fun H8 => Gr C.toBs (i * CC + (c2 + c3) + (j + 1) * CI) H1 H8 ∧ ∃ G8 k acc ds, Lc C G1 H1 D G8 H8 k acc ds ∧ acc.length ≤ sizeLine ∧ Kp C.toBs D G6 H6 G8 H8 ∧ comp2I g1 ft1 fe (ss1.drop (j + 1)) (maskE (wipeE ρ4 vs1)) k ds (fun k acc => comp2W g ft fi1 g1 ft1 fe vs1 (ss.drop (i + 1)) (wipeE ρ (own.map (·.2))) k acc P), ?_, ?_⟩
          · rintro H8 ⟨g8, G8, k, acc, ds, L, hl, K, hc⟩
            exact ⟨kk - 1, by omega, by omega, g8, G8, k, acc, ds, L, hl, K, hc⟩
          · intro x1 H8 y1
            obtain ⟨G8, S8, V8⟩ := it1.yld G7 H7 j x1 H8 _ K7.sub L7.st.ok (List.getElem?_eq_getElem hj) y1
            obtain ⟨m1, m2⟩ := it1.keep _ (List.getElem_mem hj)
            have L8 := L7.step n S8.toStep
            have K8 := K7.step S8.toStep
            have g8 : Gr C.toBs (i * CC + (c2 + c3) + j * CI) H1 H8 := gr1.trans L7.st.ok S8.gr
            rw [List.drop_eq_getElem_cons hj] at hc7
            have ent8 : Step C.toBs C.G0 C.H0 G8 H8 := (R.toRel.ent.trans S.toStep).trans L8.st
            refine q4 G8 _ _ H8 _ x1 _ _ (Rm.kept ent8 K8 L6.hd) V8 m1 m2 hc7 fun ρ9 σ9 h9 R9 e9 => ?_
            have up1 : i * CC + (c2 + c3) + j * CI + (c4 + c5) ≤ 16777216 * CC := by
              have h := Nat.mul_le_mul_right CI (show j + 1 ≤ 16777216 by omega)
              rw [Nat.succ_mul] at h
              omega
            have R10 : RelN C.quiet (c4 + c5) G8 ρ9 σ9 H8 := (Rn.le up1).quiet.go g8 R9
            refine ⟨by rw [e9, wipe_wipe _ fun v hv => hv], G8, ρ9, _, R10.l, h9, fun b G9 H9 hb9 S9 => ?_⟩
            have L9 := L8.step n S9.toStep
            have K9 := K8.step S9.toStep
            cases b with
            | false =>
              have e5 : Gr C.toBs (i * CC + (c2 + c3) + (j + 1) * CI) H1 H9 := by
                have := g8.trans L8.st.ok S9.gr
                refine this.le ?_
                rw [Nat.succ_mul]
                omega
              exact ⟨e5, G9, k, acc, ds, L9, hl7, K9, hb9⟩
            | true =>
              rw [if_pos rfl] at hb9
              show TD C.quiet c5 fe σ9 H9 _
              refine ⟨G9, ρ9, _, R10.next S9, hb9, fun s v Ga Ha ha Sa Va => ?_⟩
              obtain ⟨Gb, tb, Sb, Vb, o1, o2, hb⟩ := keep_is Sa Va ha
              obtain ⟨k', z, rfl, hlt, hz⟩ := datW_is hb
              have Lb := L9.step n Sb.toStep
              have Kb := K9.step Sb.toStep
              have hl9 : acc.length < sizeLine := by rw [Lb.il.length]; exact hlt
              have e7 : Gr C.toBs (i * CC + (c2 + c3) + (j + 1) * CI) H1 Ha := by
                have := g8.trans L8.st.ok (S9.gr.trans S9.ok Sb.gr)
                refine this.le ?_
                rw [Nat.succ_mul]
                omega
              have e8 : Gr C.toBs (i * CC + (c2 + c3) + (j + 1) * CI) H1 (upd Ha D (.lst (acc ++ [v]))) := e7.trans Lb.st.ok (Gr.same fun x hx => by rw [upd_ne fun q => S.ok.notHid (fr0_none n) (by rw [← q]; exact hx)])
              exact ⟨acc, Lb.hd, hl9, e8, Gb, k || k', acc ++ [v], ds ++ [z], Lb.push n Vb, by rw [List.length_append, List.length_singleton]; omega, Kb.put _, hz⟩
        · have he : j = ss1.length := by omega
          subst he
          rw [List.drop_length] at hc7
          refine .inl ⟨it1.stop G7 H7 K7.sub L7.st.ok, gr1.le ?_, G7, k, acc, ds, L7, hl7, hc7⟩
          have h := Nat.mul_le_mul_right CI (show ss1.length ≤ 16777216 by omega)
          rw [Nat.succ_mul]
          omega
  · have he : i = ss.length := by omega
    subst he
    rw [List.drop_length] at hc
    refine .inl ⟨it.stop G2 H2 L.st.sub L.st.ok, ?_⟩
    have all : ss.length * CC ≤ 16777216 * CC := Nat.mul_le_mul_right _ (by omega)
    refine kt (.fr k (.list ds)) (.ref D) G2 H2 hc (S.trans ⟨L.st, gr.le all⟩) ⟨⟨D, rfl, S.ok.notHid (fr0_none n), L.gd, acc, L.hd, hl, L.il⟩, fun _ _ _ q e => ?_⟩
    cases e
    exact S.dom (fr0_none n)
theorem pi_of {Y : Cx} {D : Cn} {c : Nat} {tg iter : Expr} {f : WA} (h : DI Y D c tg iter f) : PI Y tg iter (TDI D c f) := by
  obtain ⟨w, p, q⟩ := h
  exact ⟨fun pins s σ H R I hw => p.run pins s σ H R I (q σ H R hw)⟩
theorem de_lc2 {c1 c2 c3 c4 c5 : Nat} (xc : XC X C) (hN : X.N.Nodup) (hi : DI X C c1 tg iter fi) (ok : BlkOk X.N X.env.scope scope own) (hv : ∀ i ∈ vs1, i ∈ own.map (·.2))
    (hg : ∀ (s : Shared) (H : Hp) (cc : Addr) (cl : List (Str × Addr)) (fp : List Addr), DG (X.blk s H scope (compEnvC scope cl cc X.env) fp) C.quiet (own.map (·.2)) tg g t) (ht : ∀ (s : Shared) (H : Hp) (cc : Addr) (cl : List (Str × Addr)) (fp : List Addr), DTs (X.blk s H scope (compEnvC scope cl cc X.env) fp) C.quiet c2 ifs ft)
    (hi1 : ∀ (s : Shared) (H : Hp) (cc : Addr) (cl : List (Str × Addr)) (fp : List Addr), DI (X.blk s H scope (compEnvC scope cl cc X.env) fp) C.quiet c3 tg1 iter1 fi1)
    (hg1 : ∀ (s : Shared) (H : Hp) (cc : Addr) (cl : List (Str × Addr)) (fp : List Addr), DG (X.blk s H scope (compEnvC scope cl cc X.env) fp) C.quiet vs1 tg1 g1 t1) (ht1 : ∀ (s : Shared) (H : Hp) (cc : Addr) (cl : List (Str × Addr)) (fp : List Addr), DTs (X.blk s H scope (compEnvC scope cl cc X.env) fp) C.quiet c4 ifs1 ft1)
    (he : ∀ (s : Shared) (H : Hp) (cc : Addr) (cl : List (Str × Addr)) (fp : List Addr), DE (X.blk s H scope (compEnvC scope cl cc X.env) fp) C.quiet c5 elt fe) (hs : ∀ x, foldedSetIterable iter X.env x = pure x := by intro _; rfl) (hs1 : ∀ env x, foldedSetIterable iter1 env x = pure x := by intro _ _; rfl) :
    DE X C (c1 + 16777216 * (c2 + (c3 + 16777216 * (c4 + c5)))) (.ListComp elt [⟨tg, iter, ifs, 0⟩, ⟨tg1, iter1, ifs1, 0⟩] scope pos) (fun ρ P E => fi ρ (fun ss => comp2W g ft fi1 g1 ft1 fe vs1 ss (wipeE ρ (own.map (·.2))) false [] P) E) := by
  obtain ⟨w, p1, q1⟩ := hi
  refine ⟨fun pins s σ H Q I h => ?_⟩
  exact (pe_lc2 (own := own) xc.calm hN p1 ok hv (fun s H cc cl fp => (hg s H cc cl fp).1) ht (fun s H cc cl fp => pi_of (hi1 s H cc cl fp)) (fun s H cc cl fp => (hg1 s H cc cl fp).1) ht1 he hs hs1).run pins s σ H Q I (td_lc2 q1 (hg s H 0 [] []).2 (fun _ _ _ h => h) (hg1 s H 0 [] []).2 σ H Q h)
end
/-- the inner loop by an invariant -/
theorem comp2I_ind {g1 : WG} {ft1 : WB} {fe : W1} {ρ : Env} {Nx : Bool → List D → Prop} (I : List SV → Bool → List D → Prop)
    (step : ∀ s r k acc, I (s :: r) k acc → ∀ J : Bool → List D → Prop, (∀ k' acc', I r k' acc' → J k' acc') →
      g1 s ρ fun ρ' => ft1 ρ' (fun b => if b = true then fe ρ' (fun v => keepW v fun t => datW t fun k' y => acc.length < sizeLine ∧ J (k || k') (acc ++ [y])) (fun _ => False) else J k acc) (fun _ => False))
    (stop : ∀ k acc, I [] k acc → Nx k acc) : ∀ ss k acc, I ss k acc → comp2I g1 ft1 fe ss ρ k acc Nx
  | [], k, acc, h => stop k acc h
  | s :: r, k, acc, h => by
    have q := step s r k acc h (fun k' acc' => comp2I g1 ft1 fe r ρ k' acc' Nx) fun k' acc' h' => comp2I_ind I step stop r k' acc' h'
    exact q
theorem comp2_ind {g : WG} {ft : WB} {fi1 : WA} {g1 : WG} {ft1 : WB} {fe : W1} {vs1 : List Nat} {ρ : Env} {P : SV → Prop} (I : List SV → Bool → List D → Prop)
    (step : ∀ s r k acc, I (s :: r) k acc → ∀ J : Bool → List D → Prop, (∀ k' acc', I r k' acc' → J k' acc') →
      g s ρ fun ρ' => ft ρ' (fun b => if b = true then fi1 ρ' (fun ss => comp2I g1 ft1 fe ss (maskE (wipeE ρ' vs1)) k acc J) (fun _ => False) else J k acc) (fun _ => False))
    (stop : ∀ k acc, I [] k acc → P (.fr k (.list acc))) : ∀ ss k acc, I ss k acc → comp2W g ft fi1 g1 ft1 fe vs1 ss ρ k acc P
  | [], k, acc, h => stop k acc h
  | s :: r, k, acc, h => by
    have q := step s r k acc h (fun k' acc' => comp2W g ft fi1 g1 ft1 fe vs1 r ρ k' acc' P) fun k' acc' h' => comp2_ind I step stop r k' acc' h'
    exact q
end DL
set_option Elab.async false
set_option linter.all false
set_option maxRecDepth 100000
set_option maxHeartbeats 1000000
namespace DL
open PySem PySem.Spec PyProof.Rows L2
section
variable {X : Cx} {C : Cn} {c1 : Nat} {e : Expr} {fe : W1} {p1 pos : Pos} {z : Str} {j : Nat}
/-- {text: e} -/
theorem de_dict1 (he : DE X C c1 e fe) : DE X C c1 (.Dict [some (.Constant (.str z) j p1)] [e] pos) (fun ρ P E => fe ρ (fun s => keepW s fun t => datW t fun k d => P (.fr k (.dict [(.str z, d)]))) E) := by
  refine PE.imp (pe_disp (pps_cons pe_str he pps_nil) rfl rfl (List.cons_ne_nil _ _) (by show 1 ≤ 15; decide)) ?_
  rintro σ H Q ⟨G, ρ, P, R, hf, kt⟩
  intro p hp
  have sa := StepN.alloc (o := HO.dK []) R.ok hp
  have nh := R.ok.notHid (fr0_none hp)
  have ng := R.ok.noG hp
  have Ra : RelN C (0 + c1) G ρ σ H := by rw [Nat.zero_add]; exact R
  refine ⟨G, ρ, _, Ra.next sa, hf, fun s v G1 H1 q S V => ?_⟩
  obtain ⟨G2, t, S2, V2, n1, n2, q2⟩ := keep_is S V q
  obtain ⟨k, d, rfl, q3⟩ := datW_is q2
  have hD : H1 p = some (.dK []) := S2.keep p _ upd_same nh (fun ps => HO.noConfusion)
  have g2 : G2 p = none := by
    cases w : G2 p with
    | none => rfl
    | some u =>
      rcases S2.new p (by rw [w]; exact Option.some_ne_none _) with y | y
      · exact absurd ng y
      · exact (nw_not y upd_same rfl).elim
  refine ⟨hD, [(.inr z, v)], rfl, (by show 1 ≤ 15; decide), ?_⟩
  have T : StepN C.toBs c1 G H G2 H1 := (sa.trans S2).le (by omega)
  refine kt _ (.ref p) G2 _ q3 (T.write (fr0_none hp) hD rfl nh g2) ⟨⟨p, rfl, nh, g2, .inl ⟨[(.inr z, v)], upd_same, .cons V2 .nil⟩⟩, fun _ _ _ q e => by cases e; exact fr0_none hp⟩
/-- str(i), i a whole -/
def strIW : O1 := fun ss P => match ss with
  | [.d _ (.int i)] => i.natAbs.log2 < 1920 ∧ P (.d false (.str (toString i)))
  | _ => False
theorem dcall_strI : DCall X C (.type "str") strIW := by
  intro pins s σ H vs us Q I rv h
  obtain ⟨G, ss, P, w, iv, h, kt⟩ := h
  unfold strIW at h
  split at h
  · obtain ⟨v, ev, V1⟩ := iv.one
    subst ev
    cases V1
    exact call_str_int pins s σ H _ us Q I rv ⟨_, rfl, h.1, rD_ret w kt h.2 (.str _)⟩
  · exact h.elim
end
theorem lookup_relabel {env : PySem.Env} {x : Str} {k : NameKind} : ∀ {names : List (Str × NameKind)}, names.lookup x = some k → k = .cell ∨ k = .free →
    (names.map fun (n, k) => if (k == NameKind.free && env.scope.kind == .function && env.kindOf n == some .cell) then (n, NameKind.cell) else (n, k)).lookup x = some .cell ∨ (names.map fun (n, k) => if (k == NameKind.free && env.scope.kind == .function && env.kindOf n == some .cell) then (n, NameKind.cell) else (n, k)).lookup x = some .free
  | [], h, _ => by simp at h
  | (n, q) :: r, h, hk => by
    cases hx : x == n with
    | true =>
      simp only [List.lookup_cons, hx] at h
      cases h
      by_cases hc : (k == NameKind.free && env.scope.kind == .function && env.kindOf n == some .cell) = true
      · left
        show List.lookup x ((if (k == NameKind.free && env.scope.kind == .function && env.kindOf n == some .cell) = true then (n, NameKind.cell) else (n, k)) :: _) = _
        rw [if_pos hc]
        simp [List.lookup_cons, hx]
      · have e : List.lookup x ((if (k == NameKind.free && env.scope.kind == .function && env.kindOf n == some .cell) = true then (n, NameKind.cell) else (n, k)) :: (r.map fun (n, k) => if (k == NameKind.free && env.scope.kind == .function && env.kindOf n == some .cell) then (n, NameKind.cell) else (n, k))) = some k := by
          rw [if_neg hc]
          simp [List.lookup_cons, hx]
        rcases hk with rfl | rfl
        · exact .inl e
        · exact .inr e
    | false =>
      simp only [List.lookup_cons, hx] at h
      have ih := lookup_relabel (env := env) h hk
      have e : List.lookup x (((n, q) :: r).map fun (n, k) => if (k == NameKind.free && env.scope.kind == .function && env.kindOf n == some .cell) then (n, NameKind.cell) else (n, k)) = List.lookup x (r.map fun (n, k) => if (k == NameKind.free && env.scope.kind == .function && env.kindOf n == some .cell) then (n, NameKind.cell) else (n, k)) := by
        show List.lookup x ((if (q == NameKind.free && env.scope.kind == .function && env.kindOf n == some .cell) = true then (n, NameKind.cell) else (n, q)) :: _) = _
        by_cases hc : (q == NameKind.free && env.scope.kind == .function && env.kindOf n == some .cell) = true
        · rw [if_pos hc]; simp only [List.lookup_cons, hx]
        · rw [if_neg hc]; simp only [List.lookup_cons, hx]
      rw [e]
      exact ih
/-- a block within a block -/
theorem blkOk_in {X : Cx} {s : Shared} {H : Hp} {sc scope : Scope} {cl : List (Str × Addr)} {cc : Addr} {env : PySem.Env} {fp : List Addr} {own : List (Str × Nat)} (N : List Str) (hN : (X.blk s H sc (compEnvC sc cl cc env) fp).N = N := by rfl) (h : blkC N sc scope own = true := by decide +kernel) : BlkOk (X.blk s H sc (compEnvC sc cl cc env) fp).N (X.blk s H sc (compEnvC sc cl cc env) fp).env.scope scope own := by
  have b := blkOk_by h
  rw [hN]
  refine ⟨b.kind, b.uniq, b.ix, fun y hy e => ?_, b.own⟩
  rcases b.free y hy e with q | q
  · exact lookup_relabel q (.inl rfl)
  · exact lookup_relabel q (.inr rfl)
/-! ## a def that makes lambdas -/
def FTL (K : PySem.W.Frag) (mg : Str → Option Value) (x : Str) (st : Stmt) (ps : List Str) (cc : Addr) : Prop := ∃ (a : Addr) (fd : FuncData), Fun K x x st a fd ∧ mg x = some (.ref a) ∧ PySem.W.keepIn K (.ref a) = true ∧ Binds K fd ps [] ∧ fd.code = .ref cc
theorem FTL.ft {K : PySem.W.Frag} {mg : Str → Option Value} {x : Str} {st : Stmt} {ps : List Str} {cc : Addr} (h : FTL K mg x st ps cc) : FT K mg x st ps := by
  obtain ⟨a, fd, h1, h2, h3, h4, _⟩ := h
  exact ⟨a, fd, h1, h2, h3, h4⟩
theorem dfnL {P : Program} {w : World} {K : PySem.W.Frag} {mg : Str → Option Value} {base : Heap} {T : List (Addr × Str)} {gd : Bool} {k c c0 : Nat} {x : Str} {st : Stmt} {N ps : List Str} {sd : WS} {f : FS} {cc Pt : Addr} (h : FTL K mg x st ps cc) (TB : LamX.TabB base mg cc Pt)
    (hm1 : (Pt, (x ++ (".<locals>." : Str)) ++ ("<lambda>" : Str)) ∈ T) (hm2 : ∀ p ∈ T, p.1 = Pt → p.2 = (x ++ (".<locals>." : Str)) ++ ("<lambda>" : Str)) (S : FnScope N ps (defScope st))
    (body : ∀ (a : Addr) (cdv : Value) (A : Around) (out : List PySem.Env) (s : Shared) (H : Hp) (E : XK) (C : Cn), XC (cxOf (CX P w) P w K mg base N x (defScope st) a cdv A out s H E) C → C.gd = gd → C.T = T → LamTab (cxOf (CX P w) P w K mg base N x (defScope st) a cdv A out s H E) C.T → Room k (A.deeper (envOfC x (defScope st) s.heap.objs.size a cdv)) →
      DSs (cxOf (CX P w) P w K mg base N x (defScope st) a cdv A out s H E) C c0 (defBody st) sd)
    (hf : ∀ (ss : List SV) (Q : SV → Prop) (E : Str → Prop), ss.length = ps.length → f ss Q E → sd (ss.map some ++ List.replicate (N.length - ps.length) none) { nx := fun _ => Q (.d false .none), rt := Q } E)
    (hcost : c0 ≤ c := by decide) : DFn P w K mg base T gd c (k + 1) x ps f := by
  obtain ⟨a, fd, F, m, kp, b, hcode⟩ := h
  obtain ⟨oc0, od0, _, _, _, _, _, _, osl0, _, lk0, _⟩ := F.ex
  refine DFn.imp (f := fun ss Q Ex => sd (ss.map some ++ List.replicate (N.length - ps.length) none) { nx := fun _ => Q (.d false .none), rt := Q } Ex) ⟨a, fd, fng_of F S ?_ ?_, m, kp, b, oc0, od0, osl0, lk0⟩ fun ss P E hl q => hf ss P E hl q
  · rintro vs H Q E ⟨B, G, ss, Pp, Ex, _, _, _, _, _, iv, hl, _⟩
    rw [iv.length, hl]
  · intro cdv A out s H vs Q E hcd hgu hr h
    obtain ⟨B, G, ss, Pp, Ex, hK, hmg, hT, hcap, ok, iv, hl, hf, kt, ke⟩ := h
    let C : Cn := { toBs := B, gd := gd, G0 := G, H0 := H, lim := c, ex := Ex, E := E }
    have xc : XC (cxOf (CX P w) P w K mg base N x (defScope st) a cdv A out s H E) C :=
      { K := hK.symm, mg := hmg.symm, calm := rfl, room := ⟨k, hr⟩, guards := hgu, pass := passes_call (takes_of rfl rfl rfl rfl) (fun _ _ _ _ h => h), takes := takes_of rfl rfl rfl rfl, pown := passes_of rfl,
        link := fun n c G' H' q m S => ke n c G' H' q (by rw [← hmg]; exact m) S }
    have lt : LamTab (cxOf (CX P w) P w K mg base N x (defScope st) a cdv A out s H E) C.T := by
      have hq : (cxOf (CX P w) P w K mg base N x (defScope st) a cdv A out s H E).env.qual = x ++ (".<locals>." : Str) := rfl
      unfold LamTab
      show ∃ c P, _
      rw [show C.T = T from hT, hq]
      exact ⟨cc, Pt, TB, hcd.symm.trans hcode, hm1, hm2⟩
    refine ⟨TDS C c0 sd, body a cdv A out s H E C xc rfl hT lt hr, ?_⟩
    refine ⟨G, _, _, ?_, hf, ?_⟩
    · have hlen : N.length - vs.length = N.length - ps.length := by rw [iv.length, hl]
      unfold L2.start
      rw [hlen]
      exact ⟨slots_start (C := C) iv ok rfl rfl _, ⟨0, Gr.refl, by show 0 + c0 ≤ c; omega⟩, hcap⟩
    · exact ⟨fun G' ρ σ H' _ g q R => kt _ _ G' H' q ⟨R.ent, g.le hcost⟩ (.d .non) fun _ _ => SV.noConfusion, fun s v G' H' q S g V n => kt s v G' H' q ⟨S, g.le hcost⟩ V n, fun _ _ _ _ _ _ q _ => q.elim, fun _ _ _ _ _ _ q _ => q.elim⟩
end DL
set_option Elab.async false
set_option linter.all false
set_option maxRecDepth 100000
set_option maxHeartbeats 1000000
namespace DL
open PySem PySem.Spec PyProof.Rows L2
/-! ## dicts whose keys are ints and texts, by a comprehension -/
theorem IsD.append {K : PySem.W.Frag} {k : Bool} {H : Hp} {v : V} {d : D} (y : Key) (i : Is K k H v d) : ∀ {kvs : List (Key × V)} {kds : List (D × D)}, IsD K k H kvs kds → IsD K k H (kvs ++ [(y, v)]) (kds ++ [(kD y, d)])
  | _, _, .nil => .cons i .nil
  | _, _, .cons a b => .cons a (b.append y i)
theorem IsD.repl {K : PySem.W.Frag} {k : Bool} {H : Hp} {v : V} {d : D} (y : Key) (i : Is K k H v d) : ∀ {kvs : List (Key × V)} {kds : List (D × D)}, IsD K k H kvs kds →
    IsD K k H (kvs.map fun kv => if kv.1 = y then (kv.1, v) else kv) (kds.map fun p => if PyData.eqv p.1 (kD y) then (p.1, d) else p)
  | _, _, .nil => .nil
  | _, _, @IsD.cons _ _ _ z w r e rd a b => by
    rw [List.map_cons, List.map_cons]
    by_cases q : z = y
    · have q2 : PyData.eqv (kD z) (kD y) = true := by rw [eqv_key]; exact decide_eq_true q
      rw [if_pos q, if_pos q2]; exact .cons i (b.repl y i)
    · have q2 : ¬ PyData.eqv (kD z) (kD y) = true := by rw [eqv_key]; simpa using q
      rw [if_neg q, if_neg q2]; exact .cons a (b.repl y i)
theorem IsD.any {K : PySem.W.Frag} {k : Bool} {H : Hp} (y : Key) : ∀ {kvs : List (Key × V)} {kds : List (D × D)}, IsD K k H kvs kds → (kds.any fun p => PyData.eqv p.1 (kD y)) = kvs.any fun kv => decide (kv.1 = y)
  | _, _, .nil => rfl
  | _, _, @IsD.cons _ _ _ z w r e rd a b => by
    rw [List.any_cons, List.any_cons, b.any y]
    show (PyData.eqv (kD z) (kD y) || _) = _
    rw [eqv_key]
theorem IsD.put {K : PySem.W.Frag} {k : Bool} {H : Hp} {v : V} {d : D} (y : Key) (i : Is K k H v d) {kvs : List (Key × V)} {kds : List (D × D)} (h : IsD K k H kvs kds) : IsD K k H (putK kvs y v) (putD kds (kD y) d) := by
  unfold putK putD
  rw [h.any y]
  split
  · exact h.repl y i
  · exact h.append y i
/-- an int or a text -/
def keyKW (s : SV) (P : Key → Prop) : Prop := match s with
  | .d _ x => ∃ y, key? x = some y ∧ P y
  | _ => False
theorem keyKW_is {B : Bs} {G H : Hp} {v : V} {s : SV} {P : Key → Prop} (h : keyKW s P) (i : IsV B G H v s) : ∃ y, P y ∧ v = kV y := by
  unfold keyKW at h
  split at h
  · rename_i k x
    obtain ⟨y, e, p⟩ := h
    have e' := key_of? e
    subst e'
    cases y with
    | inl n => cases i; exact ⟨_, p, rfl⟩
    | inr z => cases i; exact ⟨_, p, rfl⟩
  · exact h.elim
def dcKW (g : WG) (ft : WB) (fk fv : W1) : List SV → Env → Bool → List (D × D) → (SV → Prop) → Prop
  | [], _, k, acc, P => P (.fr k (.dict acc))
  | s :: r, ρ, k, acc, P => g s ρ fun ρ' => ft ρ' (fun b => if b = true then fk ρ' (fun y => keyKW y fun ks => fv ρ' (fun v => keepW v fun t => datW t fun k' z => dcKW g ft fk fv r ρ (k || k') (putD acc (kD ks) z) P) (fun _ => False)) (fun _ => False) else dcKW g ft fk fv r ρ k acc P) (fun _ => False)
section
variable {X : Cx} {C : Cn} {G H : Hp} {ρ : Env} {σ : L2.St} {G1 H1 G' H' : Hp} {D : Addr} {k k' : Bool} {kvs : List (Key × V)} {ds : List (DL.D × DL.D)} {v : V} {y : DL.D}
structure DcK (C : Cn) (G1 H1 : Hp) (D : Addr) (G H : Hp) (k : Bool) (kvs : List (Key × V)) (ds : List (DL.D × DL.D)) : Prop where
  st : Step C.toBs G1 H1 G H
  gd : G D = none
  hd : H D = some (.dK kvs)
  il : IsD C.K k G kvs ds
theorem DcK.step (L : DcK C G1 H1 D G H k kvs ds) (n : H1 D = none) (S : Step C.toBs G H G' H') : DcK C G1 H1 D G' H' k kvs ds where
  st := L.st.trans S
  gd := by
    cases z : G' D with
    | none => rfl
    | some u =>
      rcases S.new D (by rw [z]; exact Option.some_ne_none _) with y | y
      · exact absurd L.gd y
      · exact (nw_not y L.hd rfl).elim
  hd := S.keep D _ L.hd (L.st.ok0.notHid (fr0_none n)) (fun ps => HO.noConfusion)
  il := L.il.mono S.sub
theorem DcK.push (L : DcK C G1 H1 D G H k kvs ds) (n : H1 D = none) (ks : Key) (i : Is C.K k' G v y) : DcK C G1 H1 D G (upd H D (.dK (putK kvs ks v))) (k || k') (putK kvs ks v) (putD ds (kD ks) y) where
  st := L.st.write (fr0_none n) L.hd rfl (L.st.ok0.notHid (fr0_none n)) L.gd
  gd := L.gd
  hd := upd_same
  il := (L.il.k or_l).put ks (Is.k or_r i)
variable {kx vx tg iter : Expr} {ifs : List Expr} {scope : Scope} {own : List (Str × Nat)} {pos : Pos} {fi : WA} {g : WG} {t : TG} {ft : WB} {fk fv : W1}
theorem td_dcK {c1 c2 c3 c4 : Nat} {wi : TI} (q1 : ∀ σ H R, TDI C c1 fi σ H R → wi σ H R) (q2 : GSem C.quiet (own.map (·.2)) g t) : ∀ σ H Q, TD C (c1 + 16777216 * (c2 + (c3 + c4))) (fun ρ P E => fi ρ (fun ss => dcKW g ft fk fv ss (wipeE ρ (own.map (·.2))) false [] P) E) σ H Q → tDc wi t (TDT C.quiet c2 ft) (TD C.quiet c3 fk) (TD C.quiet c4 fv) (own.map (·.2)) σ H Q := by
  rintro σ H Q ⟨G, ρ, P, R, hf, kt⟩
  refine q1 σ H _ ⟨G, ρ, _, R.l, hf, fun ss G1 H1 J hc S it => fun D n => ?_⟩
  have R1 := (R.toRel.step S.toStep).wiped (own.map (·.2))
  have Rn := R.next S
  have sa := StepN.alloc (o := HO.dK []) S.ok n
  have len := it.len
  rw [sizeLine_eq] at len
  refine ⟨fun i m H2 => m + i = ss.length ∧ Gr C.toBs (i * (c2 + (c3 + c4))) H1 H2 ∧ ∃ G2 k acc ds, DcK C G1 H1 D G2 H2 k acc ds ∧ acc.length ≤ i ∧ dcKW g ft fk fv (ss.drop i) (wipeE ρ (own.map (·.2))) k ds P, ⟨ss.length, by omega, by rw [Nat.zero_mul]; exact sa.gr, G1, false, [], [], ⟨sa.toStep, S.ok.noG n, upd_same, .nil⟩, Nat.le_refl _, by rw [List.drop_zero]; exact hc⟩, ?_⟩
  rintro i m H2 ⟨hm, gr, G2, k, acc, ds, L, hl, hc⟩
  by_cases hi : i < ss.length
  · have up : i * (c2 + (c3 + c4)) + (c2 + (c3 + c4)) ≤ 16777216 * (c2 + (c3 + c4)) := by
      have := Nat.mul_le_mul_right (c2 + (c3 + c4)) (show i + 1 ≤ 16777216 by omega)
      rw [Nat.succ_mul] at this
      exact this
    refine .inr ⟨it.go G2 H2 i L.st.sub L.st.ok hi, fun H3 => Gr C.toBs ((i + 1) * (c2 + (c3 + c4))) H1 H3 ∧ ∃ G3 k acc ds, DcK C G1 H1 D G3 H3 k acc ds ∧ acc.length ≤ i + 1 ∧ dcKW g ft fk fv (ss.drop (i + 1)) (wipeE ρ (own.map (·.2))) k ds P, ?_, ?_⟩
    · rintro H3 ⟨g3, G3, k, acc, ds, L, hl, hc⟩
      exact ⟨m - 1, by omega, by omega, g3, G3, k, acc, ds, L, hl, hc⟩
    · intro x H3 y
      obtain ⟨G3, S3, V3⟩ := it.yld G2 H2 i x H3 _ L.st.sub L.st.ok (List.getElem?_eq_getElem hi) y
      obtain ⟨n1, n2⟩ := it.keep _ (List.getElem_mem hi)
      have L3 := L.step n S3.toStep
      have g3 : Gr C.toBs (i * (c2 + (c3 + c4))) H1 H3 := gr.trans L.st.ok S3.gr
      rw [List.drop_eq_getElem_cons hi] at hc
      refine q2 G3 _ _ H3 _ x _ _ (R1.step L3.st).quiet V3 n1 n2 hc fun ρ4 σ4 h4 R4 e4 => ?_
      have R5 : RelN C.quiet (c2 + (c3 + c4)) G3 ρ4 σ4 H3 := (Rn.le up).quiet.go g3 R4
      refine ⟨by rw [e4, wipe_wipe _ fun v hv => hv], G3, ρ4, _, R5.l, h4, fun b G5 H5 h5 S5 => ?_⟩
      have L5 := L3.step n S5.toStep
      cases b with
      | false =>
        have e5 : Gr C.toBs ((i + 1) * (c2 + (c3 + c4))) H1 H5 := by
          rw [Nat.succ_mul]
          exact g3.trans L3.st.ok (S5.gr.le (Nat.le_add_right _ _))
        exact ⟨e5, G5, k, acc, ds, L5, by omega, h5⟩
      | true =>
        rw [if_pos rfl] at h5
        show TD C.quiet c3 fk σ4 H5 _
        refine ⟨G5, ρ4, _, (R5.next S5).l, h5, fun s v G6 H6 h6 S6 V6 => ?_⟩
        obtain ⟨ks, h6, ev⟩ := keyKW_is h6 V6.1
        have L6 := L5.step n S6.toStep
        refine ⟨G6, ρ4, _, (R5.next S5).next S6, h6, fun s2 v2 G7 H7 h7 S7 V7 => ?_⟩
        obtain ⟨G8, t8, S8, V8, m1, m2, h8⟩ := keep_is S7 V7 h7
        obtain ⟨k', z, rfl, h9⟩ := datW_is h8
        have L8 := L6.step n S8.toStep
        have e7 : Gr C.toBs ((i + 1) * (c2 + (c3 + c4))) H1 H7 := by
          rw [Nat.succ_mul]
          exact g3.trans L3.st.ok (S5.gr.trans S5.ok (S6.gr.trans S6.ok S8.gr))
        have e8 : Gr C.toBs ((i + 1) * (c2 + (c3 + c4))) H1 (upd H7 D (.dK (putK acc ks v2))) := e7.trans L8.st.ok (Gr.same fun x hx => by rw [upd_ne fun q => S.ok.notHid (fr0_none n) (by rw [← q]; exact hx)])
        have hlen := it.len
        have lp := length_putK acc ks v2
        exact ⟨acc, ks, ev, L8.hd, by omega, e8, G8, k || k', putK acc ks v2, _, L8.push n ks V8, by omega, h9⟩
  · have he : i = ss.length := by omega
    subst he
    rw [List.drop_length] at hc
    refine .inl ⟨it.stop G2 H2 L.st.sub L.st.ok, ?_⟩
    have hlen := it.len
    have all : ss.length * (c2 + (c3 + c4)) ≤ 16777216 * (c2 + (c3 + c4)) := Nat.mul_le_mul_right _ (by omega)
    refine kt (.fr k (.dict ds)) (.ref D) G2 H2 hc (S.trans ⟨L.st, gr.le all⟩) ⟨⟨D, rfl, S.ok.notHid (fr0_none n), L.gd, .inl ⟨acc, L.hd, L.il⟩⟩, fun _ _ _ q e => ?_⟩
    cases e
    exact S.dom (fr0_none n)
theorem de_dcK {c1 c2 c3 c4 : Nat} (xc : XC X C) (hN : X.N.Nodup) (hi : DI X C c1 tg iter fi) (ok : BlkOk X.N X.env.scope scope own)
    (hg : ∀ (s : Shared) (H : Hp) (cc : Addr) (cl : List (Str × Addr)) (fp : List Addr), DG (X.blk s H scope (compEnvC scope cl cc X.env) fp) C.quiet (own.map (·.2)) tg g t) (ht : ∀ (s : Shared) (H : Hp) (cc : Addr) (cl : List (Str × Addr)) (fp : List Addr), DTs (X.blk s H scope (compEnvC scope cl cc X.env) fp) C.quiet c2 ifs ft)
    (hk : ∀ (s : Shared) (H : Hp) (cc : Addr) (cl : List (Str × Addr)) (fp : List Addr), DE (X.blk s H scope (compEnvC scope cl cc X.env) fp) C.quiet c3 kx fk)
    (hv : ∀ (s : Shared) (H : Hp) (cc : Addr) (cl : List (Str × Addr)) (fp : List Addr), DE (X.blk s H scope (compEnvC scope cl cc X.env) fp) C.quiet c4 vx fv) (hs : ∀ x, foldedSetIterable iter X.env x = pure x := by intro _; rfl) :
    DE X C (c1 + 16777216 * (c2 + (c3 + c4))) (.DictComp kx vx [⟨tg, iter, ifs, 0⟩] scope pos) (fun ρ P E => fi ρ (fun ss => dcKW g ft fk fv ss (wipeE ρ (own.map (·.2))) false [] P) E) := by
  obtain ⟨w, p1, q1⟩ := hi
  obtain ⟨kk, rm⟩ := xc.room
  refine ⟨fun pins s σ H Q I h => ?_⟩
  refine (pe_dc (own := own) xc.calm hN p1 ok (fun s H cc cl fp => (hg s H cc cl fp).1) ht hk hv hs).run pins s σ H Q I (td_dcK q1 (hg s H 0 [] []).2 σ H Q h)
/-- what is never come to -/
theorem ds_never {st : Stmt} : DS X C 0 st (fun _ _ _ => False) := ⟨fun pins s σ H D I h => by obtain ⟨_, _, _, _, hf, _⟩ := h; exact hf.elim⟩
/-- list(range(a, b)) -/
def lr2W : O2 := fun s t P => match s, t with
  | .d _ (.int a), .d _ (.int b) => -4611686018427387904 ≤ a ∧ a ≤ 10000000 ∧ -4611686018427387904 ≤ b ∧ b ≤ 10000000 ∧ b - a ≤ 10000000 ∧ P (.fr false (.list ((List.range (b - a).toNat).map fun i => .int (a + (i : Nat)))))
  | _, _ => False
theorem de_lr2 {c1 c2 : Nat} {p p2 pos pos2 : Pos} {e e2 : Expr} {fe fe2 : W1} (xc : XC X C) (hm : X.mg "range" = none) (hl : X.mg "list" = none) (he : DE X C c1 e fe) (he2 : DE X C c2 e2 fe2) (hg : Gl X "range" := by rfl) (hg2 : Gl X "list" := by rfl)
    (na : starEach [e, e2] X.env = (false, eval e X.env) :: starEach [e2] X.env := by rfl) (nb : starEach [e2] X.env = (false, eval e2 X.env) :: starEach [] X.env := by rfl) (hp : (backTo pos2 (starEach [e2] X.env)).any (·.1) = false := by rfl)
    (na2 : starEach [.Call (.Name "range" p2) [e, e2] [] pos2] X.env = (false, eval (.Call (.Name "range" p2) [e, e2] [] pos2) X.env) :: starEach [] X.env := by rfl) :
    DE X C (c1 + c2) (.Call (.Name "list" p) [.Call (.Name "range" p2) [e, e2] [] pos2] [] pos) (fun ρ P E => fe ρ (fun s => fe2 ρ (fun t => lr2W s t P) E) E) := by
  refine PE.imp (pe_listRg xc.calm hg2 hl (prg_2 hg hm he he2 na nb hp) na2) ?_
  rintro σ H Q ⟨G, ρ, P, R, hf, kt⟩
  refine ⟨G, ρ, _, R.l, hf, fun s v G1 H1 q S V => ⟨G1, ρ, _, R.next S, q, fun s2 v2 G2 H2 q2 S2 V2 => ?_⟩⟩
  unfold lr2W at q2
  split at q2
  · rename_i k a k2 b
    obtain ⟨q3, q4, q5, q6, q7, q2⟩ := q2
    obtain ⟨V, _⟩ := V
    cases V
    obtain ⟨V2, _⟩ := V2
    cases V2
    refine ⟨a, b, rfl, rfl, ⟨by omega, by omega, by omega, by omega, by omega⟩, ?_⟩
    have e : rgV a b = ((List.range (b - a).toNat).map fun i => (a + (i : Nat) : Int)).map V.int := by
      unfold rgV
      rw [List.map_map]
      rfl
    rw [e]
    have e2 : ((List.range (b - a).toNat).map fun i => (PyData.int (a + (i : Nat)))) = ((List.range (b - a).toNat).map fun i => (a + (i : Nat) : Int)).map PyData.int := by rw [List.map_map]; rfl
    rw [e2] at q2
    intro x nx
    exact kt _ _ _ _ q2 (S.trans (S2.trans (StepN.alloc S2.ok nx))) ⟨⟨x, rfl, S2.ok.notHid (fr0_none nx), S2.ok.noG nx, _, upd_same, by rw [List.length_map, List.length_map, List.length_range, sizeLine_eq]; omega, IsL.ints _⟩, fun _ _ _ q e => by cases e; exact S.dom (S2.dom (fr0_none nx))⟩
  · exact q2.elim
end
end DL
set_option Elab.async false
set_option linter.all false
set_option maxRecDepth 100000
set_option maxHeartbeats 1000000
namespace L2
open PySem PySem.Spec PyProof.Rows
section
variable {prog : Program} {w : World} {A : Around} {E : Value → Shared → Prop} {s : Shared} {r d : Addr} {n : Nat} {T : String} {P : Nat → Value → Prop} {OK : Heap → Prop}
/-- what an iterable like a dict gives, collected -/
theorem collect_src {Q : List Value → Shared → Prop} (K : PySem.W.KdlSrc prog w T r d n P OK) (hh : A.handled = none) (hok : OK s.heap) (hn : n ≤ sizeLine)
    (hQ : ∀ (h' : Heap) (tk : Nat) (acc : Array Value), (∀ b o, s.heap.get? b = some o → h'.get? b = some o) → ItemsOf P acc n → Q acc.toList { s with heap := h', toks := tk }) :
    wpAny (model prog w) A (collect (.ref r)) Q E s := by
  unfold collect
  refine wpAny_bind (wpAny_runValue (codeAny_builtin PySem.F.entry_proto_collect ?_))
  rw [Around.under_plainId PySem.F.plain_proto_collect _]
  show wpAny _ A.in1 (newList [] >>= fun l => again (.builtin "list.__iadd__" ⟨[l, .ref r], []⟩)) _ _ s
  refine wpAny_bind (wpAny_newObj_type ?_)
  refine wpAny_pure ⟨plainId_quiet PySem.F.plain_list_iadd _, codeAny_builtin PySem.F.entry_list_iadd ?_⟩
  rw [Around.under_plainId PySem.F.plain_list_iadd _]
  show wpAny _ A.in1 (Builtin.List.listExtendWith (.ref s.heap.objs.size) (.ref r) (.ref s.heap.objs.size)) _ _ _
  have hS : (s.heap.push { cls := .type "list", data := .seq ([] : List Value).toArray }).get? s.heap.objs.size = some { cls := .type "list", data := .seq #[] 0 } := Heap.get?_push_size _ rfl
  have hlt := K.there _ hok
  refine wpAny_mono (PySem.W.kdl_extend (A := A) (s := { s with heap := s.heap.push { cls := .type "list", data := .seq ([] : List Value).toArray } }) (R := fun rr s' => rr = .ok (.ret (.ref s.heap.objs.size)) ∧ ∃ (h' : Heap) (tk : Nat) (acc : Array Value) (c' : Nat), s' = { s with heap := h', toks := tk } ∧
      (∀ b o, s.heap.get? b = some o → h'.get? b = some o) ∧ h'.get? s.heap.objs.size = some { cls := .type "list", dict := none, data := .seq acc c', slots := #[] } ∧ ItemsOf P acc n)
    K hh (K.keep _ _ hok fun b _ o e => Heap.get?_push_of_some _ e) s.heap.objs.size (Nat.ne_of_gt hlt.1) (Nat.ne_of_gt hlt.2) _ 0 hS
    (fun h' tk acc c' hk e hi => ⟨rfl, h', tk, acc, c', rfl, fun b o q => hk b o (Nat.ne_of_lt (Heap.lt_size q)) (Heap.get?_push_of_some _ q), e, hi⟩) hn) (fun fin s' h => ?_) (fun e s' h => ?_)
  · cases fin with
    | done f =>
      obtain ⟨e, h', tk, acc, c', rfl, hk, hS', hi⟩ := h
      cases e
      show wpAny _ A (load s.heap.objs.size >>= _) _ _ _
      exact wpAny_bind (wpAny_load hS' (wpAny_pure (hQ h' tk acc hk hi)))
    | again c' =>
      refine ⟨h.1, codeAny_mono h.2 fun rr s'' hr' => ?_⟩
      obtain ⟨rfl, h', tk, acc, c', rfl, hk, hS', hi⟩ := hr'
      show wpAny _ A (load s.heap.objs.size >>= _) _ _ _
      exact wpAny_bind (wpAny_load hS' (wpAny_pure (hQ h' tk acc hk hi)))
  · exact absurd h.1 (by simp)
theorem code_tuple_new_dict {Q₁ : Value → Shared → Prop} (K : PySem.W.KdlSrc prog w "dict" r d n P OK) (hh : A.handled = none) (hok : OK s.heap) (hn : n ≤ sizeLine)
    (h : ∀ (h' : Heap) (tk : Nat) (acc : Array Value), (∀ b o, s.heap.get? b = some o → h'.get? b = some o) → ItemsOf P acc n → Q₁ (.ref h'.objs.size) { s with heap := h'.push { cls := .type "tuple", data := .seq acc }, toks := tk }) :
    codeAny (model prog w) A (.call (.builtin "tuple.__new__") ⟨[.type "tuple", .ref r], []⟩) (wants Q₁ E) s := by
  refine codeAny_of_tree ?_
  show wpAny _ A.in1 (do checkBuiltinCall "tuple.__new__" ⟨[.type "tuple", .ref r], []⟩; again (.builtin "tuple.__new__" ⟨[.type "tuple", .ref r], []⟩)) _ _ s
  refine wpAny_bind (wpAny_of_eq (PySem.F.newCall_tuple_1 _) (wpAny_pure ⟨plainId_quiet PySem.F.plain_tuple_new _, codeAny_builtin PySem.F.entry_tuple_new ?_⟩))
  rw [Around.under_plainId PySem.F.plain_tuple_new _]
  have hsub := sub_tuple_self
  have hinit := init_tuple_lookup
  have hmh := madeHere_tuple
  have hTI : s.TypeIs (.ref r) "dict" := K.type s hok
  have hh1 : A.in1.handled = none := hh
  wp_walk using wpAny_typeOf hTI, collect_src (A := A.in1) K hh1 hok hn
  intro h' tk acc hk hacc
  show wpAny _ _ (Builtin.Tuple.tupleExact acc.toList.toArray >>= fun v => ret v) _ _ _
  unfold Builtin.Tuple.tupleExact
  refine wpAny_bind (wpAny_newObj_type ?_ (by show acc.toList.toArray.size ≤ sizeLine; simp only [Array.toArray_toList]; rw [hacc.1]; exact hn))
  refine wpAny_pure ?_
  have e : acc.toList.toArray = acc := by simp
  rw [e]
  exact h h' tk acc hk hacc
theorem call_tuple_src {Q : Value → Shared → Prop} (K : PySem.W.KdlSrc prog w "dict" r d n P OK) (hh : A.handled = none) (hok : OK s.heap) (hn : n ≤ sizeLine)
    (hQ : ∀ (h' : Heap) (tk : Nat) (acc : Array Value), (∀ b o, s.heap.get? b = some o → h'.get? b = some o) → ItemsOf P acc n → Q (.ref h'.objs.size) { s with heap := h'.push { cls := .type "tuple", data := .seq acc }, toks := tk }) :
    wpAny (model prog w) A (call (.type "tuple") [.ref r]) Q E s := by
  refine callType_codes (Q₁ := fun obj s₁ => s₁.TypeIs obj "tuple" ∧ Q obj s₁) PySem.F.called_tuple (PySem.F.typeCall_tuple_1 _) PySem.F.entry_object_init
    (code_tuple_new_dict (A := A.in1) K hh hok hn fun h' tk acc hk hacc => ⟨⟨_, Heap.get?_push_size _ rfl, rfl⟩, hQ h' tk acc hk hacc⟩) fun obj s₁ h₁ => ?_
  exact ⟨h₁.1, PySem.F.args_object_init_2 obj _, object_init_meets PySem.F.called_tuple.init.lookup PySem.F.called_tuple.made (by decide) prog w A.in1 _ s₁ ⟨h₁.1, rfl, h₁.2⟩⟩
end
/-- tuple(d), d a dict whose keys are ints and texts -/
theorem call_tuple_dK {X : Cx} (hc : X.calm = true) : CallR X (.type "tuple") (fun xs H Q => ∃ p kvs, xs = [.ref p] ∧ Rd H p (.dK kvs) ∧ ∀ q, H q = none → Q (.ref q) (upd H q (.tup (kvs.map fun kv => kV kv.1)))) := by
  intro pins s σ H xs us Q I r h
  obtain ⟨p, kvs, e, hk, q⟩ := h
  subst e
  obtain ⟨u, eu, rx⟩ := vals1 r
  subst eu
  obtain rfl : u = Value.ref p := rx
  obtain ⟨z, lo, vs, rk, hd⟩ := dk_rd I.hok hk
  obtain ⟨ep, hat⟩ := hd.dictAt
  have hl : kvs.length = vs.length := Paired.length rk
  refine call_tuple_src (PySem.W.kdl_dict (knd := mixKind X.prog X.w) (kvs := vs) (ep := ep) lo) (I.ok.hd hc) hat (by rw [← hl]; exact z) fun h' tk acc' hkeep hacc => ?_
  have I2 : Inv X pins σ H { s with heap := h', toks := tk } := I.kept hkeep
  refine ⟨.ref h'.objs.size, upd H h'.objs.size (.tup (kvs.map fun kv => kV kv.1)), I2.laid (t' := tk) (fun c o e => Heap.get?_push_of_some _ e) (Nat.le_refl _) (show ObjOk X.prog X.w _ _ _ (.tup (kvs.map fun kv => kV kv.1)) from ⟨?_, acc'.toList, ?_, ?_⟩), rfl, q _ (I2.hok.fresh (Nat.le_refl _))⟩
  · rw [List.length_map]; exact z
  · have el : acc'.toList.length = acc'.size := by simp
    refine vals_of_at (by rw [List.length_map, el, hacc.1, hl]) fun j x w h1 h2 => ?_
    obtain ⟨k, y, hky, hi⟩ := hacc.2 j w (by rw [← Array.getElem?_toList]; exact h2)
    have e1 : (kvs.map (·.1))[j]? = some k := by
      rw [KV.keys rk, List.getElem?_map, hky] <;> rfl
    have e2 : (kvs.map fun kv => kV kv.1)[j]? = some (kV k) := by
      have e3 : (kvs.map fun kv => kV kv.1) = (kvs.map (·.1)).map kV := by rw [List.map_map] <;> rfl
      rw [e3, List.getElem?_map, e1] <;> rfl
    rw [e2] at h1
    cases h1
    exact keyIs_rel hi
  · rw [Array.toArray_toList]; exact IsTup.new _ _
end L2
namespace DL
open PySem PySem.Spec PyProof.Rows L2
section
variable {X : Cx} {C : Cn}
theorem isL_ks {K : PySem.W.Frag} {k : Bool} {H : Hp} {kvs : List (Key × V)} {kds : List (D × D)} (h : IsD K k H kvs kds) : IsL K k H (kvs.map fun kv => kV kv.1) (kds.map (·.1)) := by
  match kvs, kds, h with
  | _, _, .nil => exact .nil
  | _, _, @IsD.cons _ _ _ y v r d rd a b =>
    refine .cons ?_ (isL_ks b)
    cases y with
    | inl n => exact .int n
    | inr z => exact .str z
/-- tuple(d), d a dict whose keys are ints and texts -/
def tupleDW : O1 := fun ss P => match ss with
  | [s] => match dv s with
    | some kds => (kds.all fun p => (key? p.1).isSome) = true ∧ kds ≠ [] ∧ kds.length ≤ sizeLine ∧ P (.d (flg s) (.tuple (kds.map (·.1))))
    | none => False
  | _ => False
theorem dcall_tupleD (xc : XC X C) : DCall X C (.type "tuple") tupleDW := by
  intro pins s σ H vs us Q I rv h
  obtain ⟨G, ss, P, w, iv, h, kt⟩ := h
  unfold tupleDW at h
  split at h
  · obtain ⟨v, ev, jv⟩ := iv.one
    subst ev
    split at h
    · rename_i kds e1
      obtain ⟨hk, hne, hl, h⟩ := h
      obtain ⟨a, rfl, hd⟩ := dv_is e1 w jv
      rcases hd with ⟨kvs, q1, h2⟩ | ⟨kvs, h1, h2⟩
      · refine call_tuple_dK xc.calm pins s σ H _ us Q I rv ⟨a, kvs, rfl, q1, rD_tup (k := flg _) w kt ?_ (by rw [List.length_map, h2.length]; exact hl) (isL_ks h2)⟩
        exact h
      · obtain ⟨rfl, rfl⟩ := IsD.nil_of h2 hk
        exact absurd rfl hne
    · exact h.elim
  · exact h.elim
end
end DL
namespace DL
open PySem PySem.Spec PyProof.Rows L2
section
variable {X : Cx} {C : Cn} {c1 : Nat} {e : Expr} {fe : W1}
/-- what a table of texts has at a value -/
def getSW (tab : List (Str × Int)) (s : SV) (P : SV → Prop) : Prop := match s with
  | .d _ (.str z) => P (.d false (match (tab.find? fun p => decide (p.1 = z)).map (·.2) with | some i => .int i | none => .none))
  | _ => False
def tabV (tab : List (Str × Int)) : List (Key × V) := tab.map fun p => (.inr p.1, .int p.2)
theorem tab_val (z : Str) : ∀ tab : List (Str × Int), valV (tabV tab) (.inr z) = ((tab.find? fun p => decide (p.1 = z)).map (·.2)).map V.int
  | [] => rfl
  | p :: r => by
    have ih := tab_val z r
    unfold tabV valV at *
    rw [List.map_cons, List.find?_cons, List.find?_cons]
    by_cases q : p.1 = z
    · have q2 : (Sum.inr p.1 : Key) = .inr z := by rw [q]
      rw [decide_eq_true q2, decide_eq_true q]
      rfl
    · have q2 : ¬ (Sum.inr p.1 : Key) = .inr z := fun h => q (by cases h; rfl)
      rw [decide_eq_false q2, decide_eq_false q]
      exact ih
theorem de_get3 {z1 z2 z3 : Str} {i1 i2 i3 : Int} {j1 j2 j3 l1 l2 l3 : Nat} {p1 p2 p3 q1 q2 q3 dp apos cpos : Pos} (xc : XC X C) (he : DE X C c1 e fe)
    (m : M1 X (.Dict [some (.Constant (.str z1) j1 p1), some (.Constant (.str z2) j2 p2), some (.Constant (.str z3) j3 p3)] [.Constant (.int i1) l1 q1, .Constant (.int i2) l2 q2, .Constant (.int i3) l3 q3] dp) "get" apos e cpos := by exact ⟨rfl, rfl, rfl, rfl⟩)
    (hd : mergeK [] (tabV [(z1, i1), (z2, i2), (z3, i3)]) = tabV [(z1, i1), (z2, i2), (z3, i3)] := by decide +kernel) :
    DE X C c1 (.Call (.Attribute (.Dict [some (.Constant (.str z1) j1 p1), some (.Constant (.str z2) j2 p2), some (.Constant (.str z3) j3 p3)] [.Constant (.int i1) l1 q1, .Constant (.int i2) l2 q2, .Constant (.int i3) l3 q3] dp) "get" apos) [e] [] cpos)
      (fun ρ P E => fe ρ (fun s => getSW [(z1, i1), (z2, i2), (z3, i3)] s P) E) := by
  obtain ⟨kk, rm⟩ := xc.room
  refine PE.imp (pe_dget1 (by have := rm.un; omega) (pe_disp (pps_cons pe_str pe_int (pps_cons pe_str pe_int (pps_cons pe_str pe_int pps_nil))) rfl rfl (List.cons_ne_nil _ _) (by show 3 ≤ 15; decide)) he m) ?_
  rintro σ H Q ⟨G, ρ, P, R, hf, kt⟩
  intro p hp
  refine ⟨upd_same, tabV [(z1, i1), (z2, i2), (z3, i3)], rfl, (by show 3 ≤ 15; decide), ?_⟩
  rw [hd, upd_upd]
  refine ⟨p, rfl, .inl ⟨_, .inl upd_same⟩, ?_⟩
  have sa := StepN.alloc (o := HO.dK (tabV [(z1, i1), (z2, i2), (z3, i3)])) R.ok hp
  have nh := R.ok.notHid (fr0_none hp)
  have Ra : RelN C (0 + c1) G ρ σ H := by rw [Nat.zero_add]; exact R
  refine ⟨G, ρ, _, Ra.next sa, hf, fun s v G1 H1 q S V => ?_⟩
  unfold getSW at q
  split at q
  · rename_i k z
    have hD : H1 p = some (.dK (tabV [(z1, i1), (z2, i2), (z3, i3)])) := S.keep p _ upd_same nh (fun ps => HO.noConfusion)
    obtain ⟨V, _⟩ := V
    cases V
    refine ⟨_, DGet.k (k := .inr z) hD, ?_⟩
    rw [tab_val]
    have T : StepN C.toBs c1 G H G1 H1 := (sa.trans S).le (by omega)
    generalize (([(z1, i1), (z2, i2), (z3, i3)] : List (Str × Int)).find? fun p => decide (p.1 = z)).map (·.2) = o at q ⊢
    cases o with
    | none => exact kt _ _ G1 _ q T (.d .non)
    | some i => exact kt _ _ G1 _ q T (.d (.int i))
  · exact q.elim
end
end DL
namespace DL
open PySem PySem.Spec PyProof.Rows L2
section
variable {X : Cx} {C : Cn} {c1 : Nat} {tg e : Expr} {fe : W1}
/-- a text's signs -/
def itemsS (s : SV) (P : List SV → Prop) : Prop := match s with
  | .d _ (.str x) => x.cps.size ≤ sizeLine ∧ P (x.cps.toList.map fun c => .d false (.str ⟨#[c]⟩))
  | _ => False
theorem itStr {G : Hp} (x : Str) (hn : x.cps.size ≤ sizeLine) : ItOk C G (x.cps.toList.map fun c => .d false (.str ⟨#[c]⟩)) (Its x) where
  len := by rw [List.length_map, Array.length_toList]; exact hn
  keep := fun s hs => by
    obtain ⟨d, _, rfl⟩ := List.mem_map.mp hs
    exact ⟨fun _ _ => SV.noConfusion, fun _ _ => SV.noConfusion⟩
  go := fun G' H j sm w hj => by
    rw [List.length_map, Array.length_toList] at hj
    exact hj
  yld := fun G' H j x1 H' s sm w hs y => by
    obtain ⟨rfl, c, hc, rfl⟩ := y
    rw [List.getElem?_map, Array.getElem?_toList, hc] at hs
    cases hs
    exact ⟨G', StepN.refl w, .str _⟩
  stop := fun G' H sm w => by
    show x.cps.size ≤ _
    rw [List.length_map, Array.length_toList]
    exact Nat.le_refl _
theorem di_str (he : DE X C c1 e fe) : DI X C c1 tg e (fun ρ P E => fe ρ (fun s => itemsS s P) E) := by
  refine ⟨_, pi_str he, ?_⟩
  rintro σ H R ⟨G, ρ, P, Rl, hf, k⟩
  refine ⟨G, ρ, _, Rl, hf, fun s v G' H' q S V => ?_⟩
  unfold itemsS at q
  split at q
  · obtain ⟨V, _⟩ := V
    cases V
    obtain ⟨hn, q2⟩ := q
    exact ⟨_, rfl, k _ G' H' _ q2 S (itStr _ hn)⟩
  · exact q.elim
end
end DL
set_option Elab.async false
set_option linter.all false
set_option maxRecDepth 100000
set_option maxHeartbeats 1000000
namespace L2
open PySem PySem.Spec PyProof.Rows
theorem subL {α : Type} [DecidableEq α] : ∀ (a b : List α), a.Nodup → (∀ x ∈ a, x ∈ b) → a.length ≤ b.length
  | [], _, _, _ => Nat.zero_le _
  | x :: a, b, h, hs => by
    rw [List.nodup_cons] at h
    have hx : x ∈ b := hs x List.mem_cons_self
    have ih := subL a (b.erase x) h.2 fun y hy => by
      refine (List.mem_erase_of_ne ?_).mpr (hs y (List.mem_cons_of_mem _ hy))
      intro e
      exact h.1 (e ▸ hy)
    rw [List.length_erase_of_mem hx] at ih
    have : 0 < b.length := List.length_pos_of_mem hx
    rw [List.length_cons]
    omega
/-- t.index(x), whole numbers -/
theorem mt_tup_indexI {X : Cx} : MtR X "tuple.index" (fun x xs H Q => ∃ p, ∃ ys : List Int, ∃ z j, x = .ref p ∧ xs = [.int z] ∧ SqT X.K H p (ys.map V.int) ∧ ys[j]? = some z ∧ (∀ m, m < j → ys[m]? ≠ some z) ∧ Q (.int (j : Nat)) H) := by
  intro pins s σ H x xs v us Q I rx rs h
  obtain ⟨p, ys, z, j, rfl, rfl, hq, hy, hno, q⟩ := h
  cases rx
  obtain ⟨u, rfl, t, rfl⟩ := vals1 rs
  obtain ⟨its, r, pl, hz⟩ := I.tuple hq
  obtain ⟨⟨cls, dd, dt, sl⟩, ho, hc, n, hd⟩ := pl
  simp only at hc hd
  subst hc
  subst hd
  have hl : its.toArray.size = ys.length := by rw [List.size_toArray, ← r.length, List.length_map]
  have hj : j < its.toArray.size := by rw [hl]; exact (List.getElem?_eq_some_iff.mp hy).1
  have flat : (ys.map V.int).all flatV = true := by
    rw [List.all_map]
    exact List.all_eq_true.mpr fun _ _ => rfl
  have at' : ∀ (m : Nat) (hm : m < its.toArray.size), ∃ y t', ys[m]? = some y ∧ its.toArray[m] = Value.int y t' := fun m hm => by
    have hm' : m < ys.length := by rw [← hl]; exact hm
    obtain ⟨w, hw, t', hw'⟩ := r.get (i := m) (x := .int ys[m]) (by simp [hm'])
    refine ⟨ys[m], t', List.getElem?_eq_getElem hm', ?_⟩
    have e := (List.getElem?_eq_some_iff.mp hw).2
    rw [← hw', ← e]
    simp
  refine call_meets PySem.F.slot_tuple_index ⟨_, ho, rfl⟩ PySem.F.entry_tuple_index (PySem.F.args_tuple_index_2 _ _) (TI.tuple_indexAt p its.toArray n dd sl (.int z t) (eqU (.int z)) j hj ?_ ?_)
    ⟨ho, fun w hw => mem_eqAt (x := .int z) ⟨t, rfl⟩ rfl r flat w (by simpa using hw), ⟨.int (j : Nat), H, I.tok _, ⟨_, rfl⟩, q⟩⟩
  · obtain ⟨y, t', h1, h2⟩ := at' j hj
    rw [hy] at h1
    cases h1
    rw [h2]
    show (z == z) = true
    exact beq_self_eq_true z
  · intro m hm hmj
    obtain ⟨y, t', h1, h2⟩ := at' m hm
    rw [h2]
    show (y == z) = false
    exact beq_eq_false_iff_ne.mpr fun e => hno m hmj (e ▸ h1)
/-- len(set(t)), t a tuple of unlike whole numbers -/
def tLenSetT (K : PySem.W.Frag) (ta : TE) : TE := fun σ H Q => ta σ H fun x H1 => ∃ (l : Addr) (ns : List Int), x = .ref l ∧ SqT K H1 l (ns.map V.int) ∧ ns.Nodup ∧ ns.length ≤ 4000 ∧ Q (.int (ns.length : Nat)) H1
theorem pe_lenSetT {X : Cx} {a : Expr} {ta : TE} {p p2 q pos : Pos} (hc : X.calm = true) (hg : Gl X "len") (hm : X.mg "len" = none) (hg2 : Gl X "set") (hm2 : X.mg "set" = none) (ha : PE X a ta)
    (na : starEach [a] X.env = (false, eval a X.env) :: starEach [] X.env := by rfl) : PE X (.Call (.Name "len" p) [.Call (.Name "set" p2) [a] [] q] [] pos) (tLenSetT X.K ta) := by
  refine ⟨fun pins s σ H Q I h => ?_⟩
  refine Call_ (ld_blt I hg hm PySem.boot_len ?_)
  refine PyProof.Rows.callWith_builtin1 (PyProof.Rows.args_cons ?_ rfl) rfl rfl
  refine Call_ (ld_blt I hg2 hm2 PyProof.Rows.boot_set ?_)
  refine PyProof.Rows.callWith_type1 (PyProof.Rows.args_cons (thn (ha.run pins s σ H _ I h) fun v s1 ⟨x, H1, I1, r1, q1⟩ => PyProof.Rows.args_nil ?_) na) na rfl
  obtain ⟨l, ns, rfl, hq, hnd, hl, q1⟩ := q1
  cases r1
  obtain ⟨its, r, pl, hz⟩ := I1.tuple hq
  refine call_set_tupI ns (I1.ok.hd hc) pl (by simpa using r.ints) (by have : scanBound = 4096 := rfl; omega) fun h' tk c hS hc2 hk => ?_
  refine PyProof.Rows.args_nil ?_
  obtain ⟨o, es, ep, t, ho, hex, hd, _, nd, mem, _, hf, hn, _⟩ := hS
  have e : es.size = ns.length := by
    have l1 := subL (es.toList.map keyOf) ns nd fun x hx => of_decide_eq_true ((mem x).mpr hx)
    have l2 := subL ns (es.toList.map keyOf) hnd fun x hx => (mem x).mp (decide_eq_true hx)
    have e0 : (es.toList.map keyOf).length = es.size := by rw [List.length_map, Array.length_toList]
    omega
  have I2 : Inv X _ σ H1 { s1 with heap := h', toks := tk } := I1.kept hk
  exact call_len_set ho hex hd hf (by rw [e] <;> omega) ⟨.int ns.length, H1, I2.tok _, ⟨_, by rw [e]⟩, q1⟩
/-- tuple(d), d a dict whose keys are ints and texts: the tuple is known to the object -/
theorem call_tuple_dX {X : Cx} (hc : X.calm = true) : CallR X (.type "tuple") (fun xs H Q => ∃ p kvs, xs = [.ref p] ∧ Rd H p (.dK kvs) ∧ ∀ q ob, H q = none → ob.cls = .type "tuple" → ob.dict = none → Q (.ref q) (upd H q (.frz ob (.tup (kvs.map fun kv => kV kv.1))))) := by
  intro pins s σ H xs us Q I r h
  obtain ⟨p, kvs, e, hk, q⟩ := h
  subst e
  obtain ⟨u, eu, rx⟩ := vals1 r
  subst eu
  obtain rfl : u = Value.ref p := rx
  obtain ⟨z, lo, vs, rk, hd⟩ := dk_rd I.hok hk
  obtain ⟨ep, hat⟩ := hd.dictAt
  have hl : kvs.length = vs.length := Paired.length rk
  refine call_tuple_src (PySem.W.kdl_dict (knd := mixKind X.prog X.w) (kvs := vs) (ep := ep) lo) (I.ok.hd hc) hat (by rw [← hl]; exact z) fun h' tk acc' hkeep hacc => ?_
  have I2 : Inv X pins σ H { s with heap := h', toks := tk } := I.kept hkeep
  refine ⟨.ref h'.objs.size, upd H h'.objs.size (.frz { cls := .type "tuple", data := .seq acc' } (.tup (kvs.map fun kv => kV kv.1))), I2.laid (t' := tk) (fun c o e => Heap.get?_push_of_some _ e) (Nat.le_refl _) (show ObjOk X.prog X.w _ _ _ (.frz { cls := .type "tuple", data := .seq acc' } (.tup (kvs.map fun kv => kV kv.1))) from ⟨Heap.get?_push_size _ rfl, ?_, acc'.toList, ?_, ?_⟩), rfl, q _ _ (I2.hok.fresh (Nat.le_refl _)) rfl rfl⟩
  · rw [List.length_map]; exact z
  · have el : acc'.toList.length = acc'.size := by simp
    refine vals_of_at (by rw [List.length_map, el, hacc.1, hl]) fun j x w h1 h2 => ?_
    obtain ⟨k, y, hky, hi⟩ := hacc.2 j w (by rw [← Array.getElem?_toList]; exact h2)
    have e1 : (kvs.map (·.1))[j]? = some k := by
      rw [KV.keys rk, List.getElem?_map, hky] <;> rfl
    have e2 : (kvs.map fun kv => kV kv.1)[j]? = some (kV k) := by
      have e3 : (kvs.map fun kv => kV kv.1) = (kvs.map (·.1)).map kV := by rw [List.map_map] <;> rfl
      rw [e3, List.getElem?_map, e1] <;> rfl
    rw [e2] at h1
    cases h1
    exact keyIs_rel hi
  · rw [Array.toArray_toList]; exact IsTup.new _ _
end L2
namespace DL
open PySem PySem.Spec PyProof.Rows L2
section
variable {X : Cx} {C : Cn} {G H : Hp} {ρ : Env} {σ : L2.St} {c1 c2 : Nat} {e e1 e2 : Expr} {fe f1 f2 : W1} {x y : Str} {p p2 pos pos' : Pos}
/-- y.append(x.pop(e)) -/
theorem ds_appPopAt {ap cp ap2 cp2 : Pos} (j i : Nat) (he : DE X C c1 e fe) (hb : ∀ {r r2 : V → List V → Hp → VK → Prop}, MtR X "list.append" r → MtR X "list.pop" r2 →
      PE X (.Call (.Attribute (.Name y p2) "append" ap2) [.Call (.Attribute (.Name x p) "pop" ap) [e] [] cp] [] cp2) (tBM X.K "list" r (tVar j) (tCons (tBM X.K "list" r2 (tVar i) (tCons (TD C c1 fe) tNil)) tNil)))
    (hs : swapsWith (.Call (.Attribute (.Name y p2) "append" ap2) [.Call (.Attribute (.Name x p) "pop" ap) [e] [] cp] [] cp2) none pos.line X.env = pure false := by rfl) (hij : i ≠ j := by decide) :
    DS X C c1 (.Expr (.Call (.Attribute (.Name y p2) "append" ap2) [.Call (.Attribute (.Name x p) "pop" ap) [e] [] cp] [] cp2) pos) (fun ρ N E => getE ρ j fun s1 => ownL s1 fun k1 ys => getE ρ i fun s => ownL s fun k xs =>
      fe ρ (fun v => intP v fun t => ∃ n z, ixN xs.length t = some n ∧ xs[n]? = some z ∧ ys.length < sizeLine ∧ N.nx ((ρ.set i (some (.own k (.list (xs.eraseIdx n))))).set j (some (.own (k1 || k) (.list (ys ++ [z])))))) E) := by
  refine PS.imp (ps_expr (hb mt_append mt_popAt) hs) ?_
  rintro D σ H ⟨G, ρ, N, R, h, ok⟩
  obtain ⟨s1, es1, q⟩ := getE_some h
  obtain ⟨k1, ys, rfl, q⟩ := ownL_is q
  obtain ⟨s, es, q⟩ := getE_some q
  obtain ⟨k, xs, rfl, q⟩ := ownL_is q
  obtain ⟨b, eb, ws, w1, hl1, il1⟩ := own_get R.toRel es1
  obtain ⟨a, ea, vs, w, hl, il⟩ := own_get R.toRel es
  refine ⟨_, eb, .inl ⟨rfl, ws, SqL.of w1⟩, _, ea, .inl ⟨rfl, vs, SqL.of w⟩, G, ρ, _, R, q, fun s v G' H' q S V => ?_⟩
  unfold intP at q
  split at q
  · rename_i kk t
    obtain ⟨V, _⟩ := V
    cases V
    obtain ⟨n, z, hn, hz, hyl, nx⟩ := q
    have R2 := R.toRel.step S.toStep
    obtain ⟨a2, ea2, vs2, w2, hl2, il2⟩ := own_get R2 es
    rw [ea] at ea2; cases ea2
    obtain ⟨u, eu, iu⟩ := il2.get hz
    rw [← il2.length] at hn
    obtain ⟨i1, i2, i3, i4⟩ := ixN_seq hn
    have hsz : sizeLine = 16777216 := sizeLine_eq
    refine ⟨a, vs2, t, n, u, rfl, rfl, w2, by omega, by omega, i1, eu, ?_⟩
    have R3 := R2.write (y := .list (xs.eraseIdx n)) (k2 := k) (u := .lst (vs2.eraseIdx n)) es ea ⟨vs2.eraseIdx n, upd_same, Nat.le_trans (List.length_eraseIdx_le _ _) hl2, il2.erase n⟩
    have es3 : (ρ.set i (some (.own k (.list (xs.eraseIdx n)))))[j]? = some (some (.own k1 (.list ys))) := by
      rw [List.getElem?_set_ne hij]
      exact es1
    obtain ⟨b3, eb3, ws3, w3, hl3, il3⟩ := own_get R3 es3
    rw [eb] at eb3; cases eb3
    have hlt : ws3.length < sizeLine := by rw [il3.length]; exact hyl
    refine ⟨b, ws3, u, rfl, rfl, w3, hlt, ?_⟩
    refine ok.nx G' _ σ _ S.sub (((S.gr.trans S.ok (own_gr R2 es ea)).trans R3.ent.ok (own_gr R3 es3 eb)).le (by omega)) nx (R3.write es3 eb ⟨ws3 ++ [u], upd_same, by rw [List.length_append]; exact hlt, ?_⟩)
    exact (il3.k or_l).append (.cons (Is.k or_r iu) .nil)
  · exact q.elim
/-- a frozen tuple -/
theorem tup_is (xc : XC X C) {v : V} {k : Bool} {ds : List D} (V : IsV C.toBs G H v (.d k (.tuple ds))) : ∃ a vs, v = .ref a ∧ (∀ G' H', Same G G' → WOk C.toBs G' H' → SqT X.K H' a vs) ∧ IsL C.K k G vs ds ∧ vs.length ≤ sizeLine := by
  cases V with
  | tup e1 hl i1 => exact ⟨_, _, rfl, fun G3 H3 sm w => SqT.of (w.sub _ _ (sm _ _ e1)), i1, hl⟩
  | tupK _ e1 hl i1 =>
    rw [xc.K]
    exact ⟨_, _, rfl, fun G3 H3 sm w => SqT.same (fun x u q => w.sub _ _ (sm _ _ q)) e1, i1, hl⟩
/-- x.index(y), x a tuple that this def has made -/
def indexW (s t : SV) (P : SV → Prop) : Prop := match s, t with
  | .own _ (.tuple xs), .d _ (.int i) => ∃ (ns : List Int) (j : Nat), xs = ns.map PyData.int ∧ ns[j]? = some i ∧ (∀ m, m < j → ns[m]? ≠ some i) ∧ P (.d false (.int (j : Nat)))
  | _, _ => False
def tBMX (r : V → List V → Hp → VK → Prop) (to : TE) (t : TA) : TE := fun σ H Q => to σ H fun x H1 => (∃ p o xs, x = .ref p ∧ H1 p = some (.frz o (.tup xs)) ∧ o.cls = .type "tuple" ∧ o.dict = none) ∧ t σ H1 fun xs H2 => r x xs H2 Q
theorem pe_bmX {o e : Expr} {es : List Expr} {to : TE} {t : TA} {name : Str} {apos cpos : Pos} {id : String} {r : V → List V → Hp → VK → Prop} (pa : PlainAttrs "tuple") (slot : Slot "tuple" name id) (hty : typeOf (.builtin id) = pure (.type "method_descriptor")) (hm : MtR X id r) (ho : PE X o to) (ha : PA X (e :: es) t)
    (hbase : attributeBase o name X.env (eval o X.env) = eval o X.env := by rfl)
    (hfew : ((backTo cpos (starEach (e :: es) X.env)).all (fun x => !x.1) && (backToKw cpos (keywordEach [] X.env)).all (fun x => x.1.isSome)
      && decide ((e :: es).length + ([] : List Keyword).length + (if ([] : List Keyword).isEmpty then 0 else 1) < 30)) = true := by rfl)
    (hline : (apos.endLine == cpos.line) = true := by rfl) (hs : starEach (e :: es) X.env = (false, eval e X.env) :: starEach es X.env := by rfl) (hplain : (backTo cpos (starEach es X.env)).any (·.1) = false := by rfl) :
    PE X (.Call (.Attribute o name apos) (e :: es) [] cpos) (tBMX r to t) := by
  refine ⟨fun pins s σ H Q I h => ?_⟩
  refine wpAny_Call_method_late hbase hfew hline rfl (thn (ho.run pins s σ H _ I h) fun v s1 ⟨x, H1, I1, r1, ty, q1⟩ => ?_)
  obtain ⟨p, ob, xs, rfl, hp, hc, hd⟩ := ty
  cases r1
  have hg := (show ObjOk X.prog X.w H1 s1.heap p (.frz ob (.tup xs)) from I1.hok p _ hp).1
  refine ⟨"tuple", id, pa, slot, hty, ⟨ob, hg, hc⟩, fun a e => ?_, ?_⟩
  · cases e
    exact ⟨ob, hg, hd⟩
  have hA := ha.run cpos pins s1 σ H1 _ I1 q1
  rw [hs] at hA ⊢
  refine Calls.callWith_builtin (by show (false || (backTo cpos (starEach es X.env)).any (·.1)) = false; rw [hplain] <;> rfl) (Calls.evalArgs_plain ?_)
  exact thn hA fun us s2 ⟨vs, H2, I2, r2, q2⟩ => hm pins s2 σ H2 (.ref p) vs (.ref p) us Q I2 rfl r2 q2
theorem de_tindex {ap cp : Pos} (i : Nat) (xc : XC X C) (h2 : DE X C c2 e2 f2)
    (hb : ∀ {r : V → List V → Hp → VK → Prop}, MtR X "tuple.index" r → PE X (.Call (.Attribute (.Name x p) "index" ap) [e2] [] cp) (tBMX r (tVar i) (tCons (TD C c2 f2) tNil))) :
    DE X C c2 (.Call (.Attribute (.Name x p) "index" ap) [e2] [] cp) (fun ρ P E => getE ρ i fun s => (∃ k xs, s = .own k (.tuple xs)) ∧ f2 ρ (fun t => indexW s t P) E) := by
  refine PE.imp (hb mt_tup_indexI) ?_
  rintro σ H Q ⟨G, ρ, P, R, hf, kt⟩
  obtain ⟨s, es, ⟨k, xs, rfl⟩, q⟩ := getE_some hf
  obtain ⟨a, ea, z, ob, vs, w, hc, hd, hl, il⟩ := own_get R.toRel es
  refine ⟨_, ea, ⟨a, ob, vs, rfl, w, hc, hd⟩, G, ρ, _, R, q, fun s v G' H' q S V => ?_⟩
  unfold indexW at q
  split at q
  · rename_i e1
    cases e1
    obtain ⟨V, _⟩ := V
    cases V
    obtain ⟨ns, j, rfl, hj, hno, q⟩ := q
    have R2 := R.toRel.step S.toStep
    obtain ⟨a2, ea2, z2, ob2, vs2, w2, hc2, hd2, hl2, il2⟩ := own_get R2 es
    rw [ea] at ea2; cases ea2
    have ev := IsL.ints_eq il2
    subst ev
    refine ⟨a, ns, _, j, rfl, rfl, .inl (.inr ⟨ob2, w2⟩), hj, hno, ?_⟩
    exact kt _ _ G' H' q S (.d (.int _))
  · exact q.elim
/-- len(set(x)), x a tuple of unlike whole numbers -/
def lenSetW (s : SV) (P : SV → Prop) : Prop := match tv s with
  | some xs => ∃ ns : List Int, xs = ns.map PyData.int ∧ ns.Nodup ∧ ns.length ≤ 4000 ∧ P (.d false (.int (ns.length : Nat)))
  | none => False
theorem de_lenSet {p p2 q pos : Pos} (xc : XC X C) (hm : X.mg "len" = none) (hm2 : X.mg "set" = none) (h1 : DE X C c1 e fe) (hg : Gl X "len" := by rfl) (hg2 : Gl X "set" := by rfl)
    (na : starEach [e] X.env = (false, eval e X.env) :: starEach [] X.env := by rfl) :
    DE X C c1 (.Call (.Name "len" p) [.Call (.Name "set" p2) [e] [] q] [] pos) (fun ρ P E => fe ρ (fun s => lenSetW s P) E) := by
  refine PE.imp (pe_lenSetT xc.calm hg hm hg2 hm2 h1 na) ?_
  rintro σ H Q ⟨G, ρ, P, R, hf, kt⟩
  refine ⟨G, ρ, _, R, hf, fun s v G' H' q S V => ?_⟩
  unfold lenSetW at q
  split at q
  · rename_i xs e1
    obtain ⟨ns, rfl, nd, hl, q⟩ := q
    obtain ⟨a, vs, rfl, h1, i1, _, z1⟩ := tv_is e1 S.ok V.1
    have ev := IsL.ints_eq i1
    subst ev
    refine ⟨a, ns, rfl, by rw [xc.K]; exact h1, nd, hl, ?_⟩
    exact kt _ _ G' H' q S (.d (.int _))
  · exact q.elim
/-- zip(x, y), two tuples -/
def zipW (s t : SV) (P : List SV → Prop) : Prop := match s, t with
  | .d k (.tuple xs), .d k2 (.tuple ys) => P ((xs.zip ys).map fun p => .d (k || k2) (.tuple [p.1, p.2]))
  | _, _ => False
theorem itZip {G : Hp} {a b : Addr} {vs ws : List V} {xs ys : List D} {k k2 : Bool} (ha : ∀ G' H', Same G G' → WOk C.toBs G' H' → SqT X.K H' a vs) (hb : ∀ G' H', Same G G' → WOk C.toBs G' H' → SqT X.K H' b ws)
    (ia : IsL C.K k G vs xs) (ib : IsL C.K k2 G ws ys) (hl : vs.length ≤ sizeLine) :
    ItOk C G ((xs.zip ys).map fun p => .d (k || k2) (.tuple [p.1, p.2])) (RZ.ItzT X.K a b) where
  len := by rw [List.length_map, List.length_zip, ← ia.length]; exact Nat.le_trans (Nat.min_le_left _ _) hl
  keep := fun s hs => by
    obtain ⟨d, _, rfl⟩ := List.mem_map.mp hs
    exact ⟨fun _ _ => SV.noConfusion, fun _ _ => SV.noConfusion⟩
  go := fun G' H j sm w hj => by
    rw [List.length_map, List.length_zip, ← ia.length, ← ib.length] at hj
    exact ⟨vs, ws, _, _, ha _ _ sm w, hb _ _ sm w, List.getElem?_eq_getElem (by omega), List.getElem?_eq_getElem (by omega)⟩
  yld := fun G' H j x1 H' s sm w hs y => by
    obtain ⟨T, u1, u2, rfl, hT, rfl, y1, y2⟩ := y
    have e1 := y1 vs (ha _ _ sm w)
    have e2 := y2 ws (hb _ _ sm w)
    obtain ⟨d1, f1, g1⟩ := ia.get' e1
    obtain ⟨d2, f2, g2⟩ := ib.get' e2
    have hz : (xs.zip ys)[j]? = some (d1, d2) := List.getElem?_zip_eq_some.mpr ⟨f1, f2⟩
    rw [List.getElem?_map, hz] at hs
    cases hs
    have sG := same_upd (o := .tup [u1, u2]) (w.noG hT)
    exact ⟨upd G' T (.tup [u1, u2]), StepN.allocG w hT rfl, .tup upd_same (by rw [sizeLine_eq]; show 2 ≤ _; decide) (.cons (Is.k or_l ((g1.mono sm).mono sG)) (.cons (Is.k or_r ((g2.mono sm).mono sG)) .nil))⟩
  stop := fun G' H sm w => by
    refine ⟨vs, ws, ha _ _ sm w, hb _ _ sm w, ?_⟩
    rw [List.length_map, List.length_zip, ← ia.length, ← ib.length]
    omega
theorem di_zip {elts : List Expr} {kk : Nat} {tpos : Pos} (xc : XC X C) (hm : X.mg "zip" = none) (h1 : DE X C c1 e1 f1) (h2 : DE X C c2 e2 f2) (hg : Gl X "zip" := by rfl)
    (hs3 : starEach [e1, e2] X.env = (false, eval e1 X.env) :: starEach [e2] X.env := by rfl) (hs4 : starEach [e2] X.env = (false, eval e2 X.env) :: starEach [] X.env := by rfl) (hpl : (backTo pos (starEach [e2] X.env)).any (·.1) = false := by rfl) :
    DI X C (c1 + c2) (.Tuple elts kk tpos) (.Call (.Name "zip" p) [e1, e2] [] pos) (fun ρ P E => f1 ρ (fun s => keepW s fun s => f2 ρ (fun t => keepW t fun t => zipW s t P) E) E) := by
  refine ⟨_, RZ.pi_zipA hg hm (pa_cons h1 (pa_cons h2 pa_nil hs4) hs3) hs3 hpl, ?_⟩
  rintro σ H R ⟨G, ρ, P, Rl, hf, k⟩
  refine ⟨G, ρ, _, Rl.l, hf, fun s v G1 H1 q S V => ?_⟩
  obtain ⟨G2, s2, S2, V2, n1, n2, q2⟩ := keep_is S V q
  refine ⟨G2, ρ, _, Rl.next S2, q2, fun t w G3 H3 q3 S3 V3 => ?_⟩
  obtain ⟨G4, t4, S4, V4, m1, m2, q4⟩ := keep_is S3 V3 q3
  unfold zipW at q4
  split at q4
  · rename_i ka xs kb ys
    obtain ⟨a, vs, rfl, ha, ia, la⟩ := tup_is xc (V2.step S4)
    obtain ⟨b, ws, rfl, hb, ib, lb⟩ := tup_is xc V4
    refine ⟨a, b, vs, ws, rfl, .inr ⟨ha _ _ (Same.refl _) S4.ok, hb _ _ (Same.refl _) S4.ok, ?_⟩⟩
    refine k _ G4 H3 _ q4 (S2.trans S4) (itZip ha hb ia ib la)
  · exact q4.elim
/-- tuple(d), the tuple new -/
def tupleXW : O1 := fun ss P => match ss with
  | [s] => match dv s with
    | some kds => (kds.all fun p => (key? p.1).isSome) = true ∧ kds ≠ [] ∧ kds.length ≤ sizeLine ∧ P (.fr true (.tuple (kds.map (·.1))))
    | none => False
  | _ => False
theorem dcall_tupleX (xc : XC X C) : DCall X C (.type "tuple") tupleXW := by
  intro pins s σ H vs us Q I rv h
  obtain ⟨G, ss, P, w, iv, h, kt⟩ := h
  unfold tupleXW at h
  split at h
  · obtain ⟨v, ev, jv⟩ := iv.one
    subst ev
    split at h
    · rename_i kds e1
      obtain ⟨hk, hne, hl, h⟩ := h
      obtain ⟨a, rfl, hd⟩ := dv_is e1 w jv
      rcases hd with ⟨kvs, q1, h2⟩ | ⟨kvs, h1, h2⟩
      · refine call_tuple_dX xc.calm pins s σ H _ us Q I rv ⟨a, kvs, rfl, q1, fun q ob hq c d => ?_⟩
        exact kt _ _ G _ h (StepN.alloc w hq) ⟨⟨q, rfl, w.notHid (fr0_none hq), w.noG hq, rfl, ob, _, upd_same, c, d, by rw [List.length_map, h2.length]; exact hl, (isL_ks h2).k fun _ => rfl⟩, fun _ _ _ z e => by cases e; exact fr0_none hq⟩
      · obtain ⟨rfl, rfl⟩ := IsD.nil_of h2 hk
        exact absurd rfl hne
    · exact h.elim
  · exact h.elim
end
end DL
namespace L2
open PySem PySem.Spec PyProof.Rows
/-- an empty dict, seen as one whose keys are ints and texts -/
theorem Inv.emptyK {X : Cx} {pins : List (Addr × Obj)} {σ : St} {H : Hp} {s : Shared} {a : Addr} (I : Inv X pins σ H s) (e : H a = some (.dT [])) : Inv X pins σ (upd H a (.dK [])) s := by
  obtain ⟨hd, vs, rel, dd⟩ := DL.dictK (kvs := []) I (.inr ⟨rfl, e⟩)
  obtain ⟨o, es, ep, h1, r⟩ := id dd
  exact d_write (t' := s.toks) I (by rw [e]; trivial) ⟨rfl, fun _ _ => rfl⟩ ⟨_, h1⟩ ⟨Nat.zero_le _, hd, vs, rel, dd⟩
/-- d[y] = v, y an int or a text, d maybe empty -/
theorem ps_dputKE {X : Cx} {o i value : Expr} {td ty tv : TE} {pos pos' : Pos} (hu : X.A.units + 1 < cLine) (ho : PE X o td) (hi : PE X i ty) (hv : PE X value tv) (hs : swapsWith value (some (.Subscript o i pos')) pos.line X.env = pure false) :
    PS X (.Assign [.Subscript o i pos'] value pos) (fun D σ H => tv σ H fun v H1 => td σ H1 fun x H2 => ty σ H2 fun y H3 => ∃ (a : Addr) (k : Key) (kvs : List (Key × V)), x = .ref a ∧ y = kV k ∧
      (H3 a = some (.dK kvs) ∨ (kvs = [] ∧ H3 a = some (.dT []))) ∧ kvs.length < sizeLine ∧ D.nx σ (upd H3 a (.dK (putK kvs k v)))) := by
  refine ⟨fun pins s σ H D I h => ?_⟩
  refine wpAny_Assign_Subscript (thn (hv.run pins s σ H _ I h) fun r s1 ⟨v, H1, I1, rv, q1⟩ => thn (ho.run pins s1 σ H1 _ I1 q1) fun u s2 ⟨x, H2, I2, rx, q2⟩ => thn (hi.run pins s2 σ H2 _ I2 q2) fun iv s3 ⟨y, H3, I3, ry, a, k, kvs, ex, ey, ea, hl, q3⟩ => ?_) hs
  subst ex; subst ey
  obtain rfl : u = Value.ref a := rx
  rcases ea with ea | ⟨rfl, ea⟩
  · exact d_setItem hu I3 (DPut.k ea hl) ry rv fun s4 I4 => ⟨σ, _, I4, q3⟩
  · exact d_setItem hu (I3.emptyK ea) (DPut.k upd_same hl) ry rv fun s4 I4 => ⟨σ, _, I4, by rw [upd_upd]; exact q3⟩
end L2
namespace DL
open PySem PySem.Spec PyProof.Rows L2
section
variable {X : Cx} {C : Cn} {c1 c2 : Nat} {ie ve : Expr} {fi fv : W1} {x : Str} {p p2 pos : Pos}
/-- x[y] = v, y an int or a text -/
theorem ds_put (i : Nat) (xc : XC X C) (n : NameOk X i x) (hi : DE X C c2 ie fi) (hv : DE X C c1 ve fv) (hs : swapsWith ve (some (.Subscript (.Name x p) ie p2)) pos.line X.env = pure false := by rfl) :
    DS X C (c1 + c2) (.Assign [.Subscript (.Name x p) ie p2] ve pos) (fun ρ N E => fv ρ (fun v => keepW v fun t => datW t fun k' z => getE ρ i fun s => ownD s fun k kds => fi ρ (fun y => keyKW y fun ks => (kds.all fun p => (key? p.1).isSome) = true ∧ kds.length < sizeLine ∧ N.nx (ρ.set i (some (.own (k || k') (.dict (putD kds (kD ks) z)))))) E) E) := by
  obtain ⟨kr, hr⟩ := xc.room
  refine PS.imp (ps_dputKE (by have := hr.un; omega) (pe_var n.1 n.2.1 n.2.2.1 n.2.2.2) hi hv hs) ?_
  rintro D σ H ⟨G, ρ, N, R, h, ok⟩
  refine ⟨G, ρ, _, R.l, h, fun v u G1 H1 q S U => ?_⟩
  obtain ⟨G2, t, S2, V2, n1, n2, q2⟩ := keep_is S U q
  obtain ⟨k', z, rfl, q3⟩ := datW_is q2
  obtain ⟨s, es, q4⟩ := getE_some q3
  unfold ownD at q4
  split at q4
  · rename_i k kds
    have R2 := R.next S2
    obtain ⟨a, ea, _⟩ := own_get R2.toRel es
    refine ⟨_, ea, G2, ρ, _, R2, q4, fun y uy G3 H3 q6 S3 V3 => ?_⟩
    obtain ⟨ks, ⟨hk, hl, nx⟩, rfl⟩ := keyKW_is q6 V3.1
    have R3 := R2.toRel.step S3.toStep
    obtain ⟨a3, ea3, ow⟩ := own_get R3 es
    rw [ea] at ea3; cases ea3
    have V5 : Is C.K k' G3 u z := V2.step S3
    obtain ⟨kvs, e3, il⟩ : ∃ kvs : List (Key × V), (H3 a = some (.dK kvs) ∨ (kvs = [] ∧ H3 a = some (.dT []))) ∧ IsD C.K k G3 kvs kds := by
      rcases ow with ⟨kvs, e1, il⟩ | ⟨kvs, e1, il⟩
      · exact ⟨kvs, .inl e1, il⟩
      · obtain ⟨rfl, rfl⟩ := IsD.nil_of il hk
        exact ⟨[], .inr ⟨rfl, e1⟩, .nil⟩
    refine ⟨a, ks, kvs, rfl, rfl, e3, by rw [il.length]; exact hl, ?_⟩
    refine ok.nx G3 _ σ _ (S2.sub.trans S3.sub) ((S2.gr.trans S2.ok S3.gr).trans S3.ok (own_gr R3 es ea)) nx (R3.write es ea (.inl ⟨putK kvs ks u, upd_same, ?_⟩))
    exact (il.k or_l).put ks (Is.k or_r V5)
  · exact q4.elim
end
end DL
set_option Elab.async false
set_option linter.all false
set_option maxRecDepth 100000
set_option maxHeartbeats 4000000
namespace My
/-! ### lists without doubles -/
def rowStep (acc : List Nat) (x : Nat) : List Nat := if x ∈ acc then acc else acc ++ [x]
def rowL (l : List Nat) : List Nat := l.foldl rowStep []
theorem row_mem : ∀ (l acc : List Nat) (x : Nat), x ∈ l.foldl rowStep acc ↔ x ∈ acc ∨ x ∈ l
  | [], acc, x => by simp
  | y :: l, acc, x => by
    rw [List.foldl_cons, row_mem l]
    unfold rowStep
    by_cases h : y ∈ acc
    · rw [if_pos h, List.mem_cons]
      constructor
      · rintro (a | a)
        · exact .inl a
        · exact .inr (.inr a)
      · rintro (a | rfl | a)
        · exact .inl a
        · exact .inl h
        · exact .inr a
    · rw [if_neg h, List.mem_append, List.mem_singleton, List.mem_cons]
      constructor
      · rintro ((a | rfl) | a)
        · exact .inl a
        · exact .inr (.inl rfl)
        · exact .inr (.inr a)
      · rintro (a | rfl | a)
        · exact .inl (.inl a)
        · exact .inl (.inr rfl)
        · exact .inr a
theorem row_nodup : ∀ (l acc : List Nat), acc.Nodup → (l.foldl rowStep acc).Nodup
  | [], acc, h => h
  | y :: l, acc, h => by
    rw [List.foldl_cons]
    refine row_nodup l _ ?_
    unfold rowStep
    by_cases q : y ∈ acc
    · rw [if_pos q]; exact h
    · rw [if_neg q, List.nodup_append]
      exact ⟨h, by simp, fun a ha b hb e => q (by rw [List.mem_singleton] at hb; rw [← hb, ← e]; exact ha)⟩
theorem sub_len : ∀ (a b : List Nat), a.Nodup → (∀ x ∈ a, x ∈ b) → a.length ≤ b.length
  | [], _, _, _ => Nat.zero_le _
  | x :: a, b, h, hs => by
    rw [List.nodup_cons] at h
    have hx : x ∈ b := hs x List.mem_cons_self
    have ih := sub_len a (b.erase x) h.2 fun y hy => by
      have hy2 := hs y (List.mem_cons_of_mem _ hy)
      refine (List.mem_erase_of_ne ?_).mpr hy2
      intro e
      exact h.1 (e ▸ hy)
    rw [List.length_erase_of_mem hx] at ih
    have : 0 < b.length := List.length_pos_of_mem hx
    rw [List.length_cons]
    omega
theorem row_full {l : List Nat} {s : Nat} (h : ∀ x ∈ l, x < s) : (rowL l).length = s ↔ ∀ c, c < s → c ∈ l := by
  have nd := row_nodup l [] List.nodup_nil
  have mem : ∀ x, x ∈ rowL l ↔ x ∈ l := fun x => by
    unfold rowL
    rw [row_mem]
    simp
  have le : (rowL l).length ≤ (List.range s).length := sub_len _ _ nd fun x hx => List.mem_range.mpr (h x ((mem x).mp hx))
  rw [List.length_range] at le
  constructor
  · intro e c hc
    by_cases q : c ∈ l
    · exact q
    · exfalso
      have le2 : (rowL l).length ≤ ((List.range s).erase c).length := sub_len _ _ nd fun x hx => by
        have hx := (mem x).mp hx
        refine (List.mem_erase_of_ne ?_).mpr (List.mem_range.mpr (h x hx))
        intro z
        exact q (z ▸ hx)
      rw [List.length_erase_of_mem (List.mem_range.mpr hc), List.length_range] at le2
      omega
  · intro hc
    have ge : (List.range s).length ≤ (rowL l).length := sub_len _ _ List.nodup_range fun x hx => (mem x).mpr (hc x (List.mem_range.mp hx))
    rw [List.length_range] at ge
    omega
theorem row_le {l : List Nat} : (rowL l).length ≤ l.length := by
  have nd := row_nodup l [] List.nodup_nil
  refine sub_len _ _ nd fun x hx => ?_
  have := (row_mem l [] x).mp hx
  simpa using this
/-! ### kinds of steps -/
inductive Kd where
  | by_ (a : Nat) | tri | sq (b c : Nat) | own
def stepN (s n : Nat) : Nat := if s = 1 then 1 else 1 + n / s % (s - 1)
def farN (K : Kd) (s n i : Nat) : Nat := match K with
  | .by_ a => a * i
  | .tri => i * (i + 1) / 2
  | .sq b c => b * i + c * i * i
  | .own => stepN s n * i
def cellN (K : Kd) (s n i : Nat) : Nat := (n % s + farN K s n i) % s
def rowN (K : Kd) (s n : Nat) : List Nat := rowL ((List.range (2 * s)).map (cellN K s n))
theorem cover_shift {s : Nat} (hs : 1 ≤ s) (h : Nat) (f : Nat → Nat) (m : Nat) : (∀ c, c < s → ∃ i, i < m ∧ (h + f i) % s = c) ↔ ∀ c, c < s → ∃ i, i < m ∧ f i % s = c := by
  constructor
  · intro k c hc
    obtain ⟨i, hi, e⟩ := k ((h + c) % s) (Nat.mod_lt _ hs)
    refine ⟨i, hi, ?_⟩
    have e2 : (h + f i) % s = (h + c) % s := e
    have l := Nat.mod_lt h hs
    have key : ∀ u, ((h + u) % s + (s - h % s)) % s = u % s := fun u => by
      rw [Nat.add_mod h u, Nat.mod_add_mod, show h % s + u % s + (s - h % s) = u % s + s by omega, Nat.add_mod_right, Nat.mod_mod]
    rw [← key (f i), e2, key c, Nat.mod_eq_of_lt hc]
  · intro k c hc
    obtain ⟨i, hi, e⟩ := k ((c + (s - h % s)) % s) (Nat.mod_lt _ hs)
    refine ⟨i, hi, ?_⟩
    have l := Nat.mod_lt h hs
    rw [Nat.add_mod, e, Nat.add_mod_mod, ← Nat.add_assoc, Nat.add_right_comm, show h % s + (s - h % s) + c = c + s by omega, Nat.add_mod_right, Nat.mod_eq_of_lt hc]
theorem row_cover (K : Kd) {s : Nat} (hs : 1 ≤ s) (n : Nat) : (rowN K s n).length = s ↔ ∀ c, c < s → ∃ i, i < 2 * s ∧ farN K s n i % s = c := by
  unfold rowN
  rw [row_full fun x hx => by
    obtain ⟨i, _, rfl⟩ := List.mem_map.mp hx
    exact Nat.mod_lt _ hs]
  rw [← cover_shift hs (n % s) (farN K s n) (2 * s)]
  constructor
  · intro k c hc
    obtain ⟨i, hi, e⟩ := List.mem_map.mp (k c hc)
    exact ⟨i, List.mem_range.mp hi, e⟩
  · intro k c hc
    obtain ⟨i, hi, e⟩ := k c hc
    exact List.mem_map.mpr ⟨i, List.mem_range.mpr hi, e⟩
/-! ### own steps -/
theorem own_full {s n : Nat} (hs : 1 ≤ s) (hn : s = 1 ∨ 2 ≤ s) : (rowN .own s n).length = s ↔ Nat.gcd (stepN s n) s = 1 := by
  rw [row_cover .own hs n]
  show (∀ c, c < s → ∃ i, i < 2 * s ∧ (stepN s n * i) % s = c) ↔ _
  generalize stepN s n = a
  constructor
  · intro k
    by_cases q : s = 1
    · subst q; exact Nat.gcd_one_right a
    · obtain ⟨i, _, e⟩ := k 1 (by omega)
      have d1 : Nat.gcd a s ∣ a * i % s := (Nat.dvd_mod_iff (Nat.gcd_dvd_right a s)).mpr (Nat.dvd_mul_right_of_dvd (Nat.gcd_dvd_left a s) i)
      rw [e] at d1
      exact Nat.dvd_one.mp d1
  · intro g c hc
    -- the steps 0 .. s - 1 meet unlike cells
    have inj : ∀ i j, i < s → j < s → i ≤ j → a * i % s = a * j % s → i = j := fun i j hi hj hij e => by
      have d : s ∣ a * j - a * i := Nat.dvd_of_mod_eq_zero (Nat.sub_mod_eq_zero_of_mod_eq e.symm)
      rw [← Nat.mul_sub] at d
      have co : Nat.Coprime s a := by rw [Nat.coprime_comm]; exact g
      have d2 := co.dvd_of_dvd_mul_left d
      have := Nat.eq_zero_of_dvd_of_lt d2 (by omega)
      omega
    have nd : ((List.range s).map fun i => a * i % s).Nodup := by
      refine List.pairwise_map.mpr (List.Pairwise.imp_of_mem (R := fun x y => x < y) (fun {x y} hx hy h e => ?_) List.pairwise_lt_range)
      have := inj x y (List.mem_range.mp hx) (List.mem_range.mp hy) (by omega) e
      omega
    have h1 := (row_full (l := (List.range s).map fun i => a * i % s) (s := s) fun x hx => by
      obtain ⟨i, _, rfl⟩ := List.mem_map.mp hx
      exact Nat.mod_lt _ hs).mp ?_ c hc
    · obtain ⟨i, hi, e⟩ := List.mem_map.mp h1
      have := List.mem_range.mp hi
      exact ⟨i, by omega, e⟩
    · have a1 : (rowL ((List.range s).map fun i => a * i % s)).length ≤ s := by
        have := row_le (l := (List.range s).map fun i => a * i % s)
        rw [List.length_map, List.length_range] at this
        exact this
      have a2 := sub_len _ (rowL ((List.range s).map fun i => a * i % s)) nd fun x hx => by
        unfold rowL
        rw [row_mem]
        exact .inr hx
      rw [List.length_map, List.length_range] at a2
      omega
/-! ### least divisors -/
def strip (p : Nat) : Nat → Nat → Nat × Nat
  | 0, n => (n, 0)
  | f + 1, n => if n % p = 0 then ((strip p f (n / p)).1, (strip p f (n / p)).2 + 1) else (n, 0)
def ppGo : Nat → Nat → Nat → List (Nat × Nat)
  | 0, _, _ => []
  | f + 1, n, p => if p * p ≤ n then (if (strip p 13 n).2 > 0 then [(p, (strip p 13 n).2)] else []) ++ ppGo f (strip p 13 n).1 (p + 1) else if n > 1 then [(n, 1)] else []
def ppN (n : Nat) : List (Nat × Nat) := ppGo 66 n 2
theorem strip_no {p f n : Nat} (h : n % p ≠ 0) : strip p (f + 1) n = (n, 0) := by unfold strip; rw [if_neg h]
theorem pp_head {n : Nat} (hn : 2 ≤ n) (hm : n ≤ 4096) : ∀ (f p : Nat), 2 ≤ p → p ≤ 65 → 68 ≤ f + p → (∀ d, 2 ≤ d → d < p → n % d ≠ 0) → ∃ q e r, ppGo f n p = (q, e) :: r ∧ 2 ≤ q ∧ n % q = 0 ∧ ∀ d, 2 ≤ d → d < q → n % d ≠ 0
  | 0, p, hp, hp2, hf, hd => by omega
  | f + 1, p, hp, hp2, hf, hd => by
    unfold ppGo
    by_cases le : p * p ≤ n
    · rw [if_pos le]
      by_cases z : n % p = 0
      · have h2 : (strip p 13 n).2 > 0 := by unfold strip; rw [if_pos z]; exact Nat.succ_pos _
        rw [if_pos h2]
        exact ⟨p, _, _, rfl, hp, z, hd⟩
      · have p64 : p ≤ 64 := Nat.le_of_not_lt fun h => by
          have := Nat.mul_le_mul (show 65 ≤ p from h) (show 65 ≤ p from h)
          omega
        rw [strip_no z, if_neg (Nat.lt_irrefl 0)]
        refine pp_head hn hm f (p + 1) (by omega) (by omega) (by omega) fun d d1 d2 => ?_
        by_cases e : d = p
        · rw [e]; exact z
        · exact hd d d1 (by omega)
    · rw [if_neg le, if_pos (show n > 1 by omega)]
      refine ⟨n, 1, [], rfl, hn, Nat.mod_self n, fun d d1 d2 z => ?_⟩
      by_cases q : d < p
      · exact hd d d1 q z
      · obtain ⟨c, rfl⟩ := Nat.dvd_of_mod_eq_zero z
        have c2 : 2 ≤ c := by
          rcases c with _ | _ | c
          · omega
          · omega
          · omega
        have cp : c < p := by
          refine Nat.lt_of_not_le fun h => le ?_
          exact Nat.mul_le_mul (by omega) h
        exact hd c c2 cp (Nat.mul_mod_left d c)
/-- the least divisor from 2 on is the least step that has something in common -/
theorem first_gcd {s q : Nat} (hq : 2 ≤ q) (hd : s % q = 0) (hl : ∀ d, 2 ≤ d → d < q → s % d ≠ 0) : Nat.gcd q s = q ∧ ∀ t, 1 ≤ t → t < q → Nat.gcd t s = 1 := by
  refine ⟨Nat.gcd_eq_left (Nat.dvd_of_mod_eq_zero hd), fun t t1 t2 => ?_⟩
  have g1 : Nat.gcd t s ≤ t := Nat.le_of_dvd (by omega) (Nat.gcd_dvd_left t s)
  have g0 : 0 < Nat.gcd t s := Nat.gcd_pos_of_pos_left s (by omega)
  by_cases q : Nat.gcd t s = 1
  · exact q
  · exact absurd (Nat.mod_eq_zero_of_dvd (Nat.gcd_dvd_right t s)) (hl _ (by omega) (by omega))
def shortN (s : Nat) : Option Nat := match ppN s with
  | (q, _) :: _ => if s = 1 ∨ q = s then none else some ((q - 1) * s)
  | [] => none
/-- what shortN tells -/
theorem short_is {s : Nat} (h1 : 1 ≤ s) (h2 : s ≤ 4096) : (shortN s = none ∧ ∀ t, 1 ≤ t → t < s → Nat.gcd t s = 1) ∨ ∃ q, 2 ≤ q ∧ q < s ∧ shortN s = some ((q - 1) * s) ∧ Nat.gcd q s = q ∧ ∀ t, 1 ≤ t → t < q → Nat.gcd t s = 1 := by
  by_cases one : s = 1
  · subst one
    exact .inl ⟨rfl, fun t t1 t2 => by omega⟩
  · obtain ⟨q, e, r, hpp, hq, hd, hl⟩ := pp_head (show 2 ≤ s by omega) h2 66 2 (Nat.le_refl _) (by decide) (by decide) fun d d1 d2 => by omega
    obtain ⟨g1, g2⟩ := first_gcd hq hd hl
    have hs : shortN s = if s = 1 ∨ q = s then none else some ((q - 1) * s) := by
      unfold shortN ppN
      rw [hpp]
    have qs : q ≤ s := Nat.le_of_dvd (by omega) (Nat.dvd_of_mod_eq_zero hd)
    by_cases z : q = s
    · refine .inl ⟨by rw [hs, if_pos (.inr z)], fun t t1 t2 => g2 t t1 (by omega)⟩
    · refine .inr ⟨q, hq, by omega, by rw [hs, if_neg (by omega)], g1, g2⟩
/-! ### what is met by prime powers -/
def divGo (x p m : Nat) : Nat → Nat → Nat
  | 0, i => i
  | f + 1, i => if i < m ∧ x % p ^ (i + 1) = 0 then divGo x p m f (i + 1) else i
def divN (x p m : Nat) : Nat := divGo x p m 14 0
def sqN (p m : Nat) : Nat := if m = 0 then 1 else if p = 2 then (2 ^ (m - 1) + (if m % 2 = 0 then 4 else 5)) / 3 else (p ^ (m + 1) + (if m % 2 = 0 then p + 2 else 2 * p + 1)) / (2 * (p + 1))
def metN (K : Kd) (p m : Nat) : Nat := match K with
  | .by_ a => p ^ (m - divN a p m)
  | .tri => if p = 2 then 2 ^ m else sqN p m
  | .sq b c => if divN b p m < divN c p m ∨ (divN b p m = m ∧ divN c p m = m) then p ^ (m - divN b p m) else if divN b p m = divN c p m ∧ p = 2 then 2 ^ (m - divN b p m - 1) else sqN p (m - divN c p m)
  | .own => 0
def meetsB (K : Kd) (s : Nat) : Bool := (ppN s).all fun q => decide (metN K q.1 q.2 = q.1 ^ q.2)
/-- the cells that are met, as bits -/
noncomputable def mask (f : Nat → Nat) (s : Nat) (n : Nat) : Nat := Nat.rec 0 (fun i acc => Nat.lor acc (Nat.pow 2 (Nat.mod (f i) s))) n
theorem mask_bit (f : Nat → Nat) (s c : Nat) : ∀ n, (mask f s n).testBit c = true ↔ ∃ i, i < n ∧ f i % s = c
  | 0 => by
    show (0 : Nat).testBit c = true ↔ _
    rw [Nat.zero_testBit]
    simp
  | n + 1 => by
    have e : mask f s (n + 1) = mask f s n ||| 2 ^ (f n % s) := rfl
    rw [e, Nat.testBit_or, Bool.or_eq_true, mask_bit f s c n, Nat.testBit_two_pow]
    constructor
    · rintro (⟨i, hi, q⟩ | q)
      · exact ⟨i, by omega, q⟩
      · exact ⟨n, by omega, of_decide_eq_true q⟩
    · rintro ⟨i, hi, q⟩
      by_cases z : i = n
      · exact .inr (decide_eq_true (by rw [← z]; exact q))
      · exact .inl ⟨i, by omega, q⟩
theorem mask_full {f : Nat → Nat} {s n : Nat} (hs : 1 ≤ s) : mask f s n = 2 ^ s - 1 ↔ ∀ c, c < s → ∃ i, i < n ∧ f i % s = c := by
  constructor
  · intro e c hc
    rw [← mask_bit f s c n, e, Nat.testBit_two_pow_sub_one]
    exact decide_eq_true hc
  · intro h
    refine Nat.eq_of_testBit_eq fun c => ?_
    rw [Nat.testBit_two_pow_sub_one]
    by_cases hc : c < s
    · rw [(mask_bit f s c n).mpr (h c hc), decide_eq_true hc]
    · rw [decide_eq_false hc]
      cases q : (mask f s n).testBit c with
      | false => rfl
      | true =>
        obtain ⟨i, _, e⟩ := (mask_bit f s c n).mp q
        exact absurd (e ▸ Nat.mod_lt _ hs) hc
noncomputable def coverB (f : Nat → Nat) (s : Nat) : Bool := Nat.beq (mask f s (Nat.mul 2 s)) (Nat.sub (Nat.pow 2 s) 1)
theorem cover_is {f : Nat → Nat} {s : Nat} (hs : 1 ≤ s) : coverB f s = true ↔ ∀ c, c < s → ∃ i, i < 2 * s ∧ f i % s = c := by
  rw [← mask_full hs]
  unfold coverB
  rw [Nat.beq_eq]
  exact Iff.rfl
noncomputable def allN (P : Nat → Bool) (n : Nat) : Bool := Nat.rec true (fun i b => and (P i) b) n
theorem all_is {P : Nat → Bool} : ∀ {n : Nat}, allN P n = true → ∀ i, i < n → P i = true
  | 0, _, i, hi => by omega
  | n + 1, h, i, hi => by
    have h2 : (P n && allN P n) = true := h
    rw [Bool.and_eq_true] at h2
    by_cases z : i = n
    · rw [z]; exact h2.1
    · exact all_is h2.2 i (by omega)
theorem sq_checked : allN (fun s => allN (fun b => allN (fun c => coverB (fun i => Nat.mul i (Nat.add b (Nat.mul c i))) (s + 1) == meetsB (.sq b c) (s + 1)) (s + 1)) (s + 1)) 40 = true := by decide +kernel
theorem by_checked : allN (fun s => allN (fun a => coverB (fun i => Nat.mul a i) (s + 1) == meetsB (.by_ a) (s + 1)) (s + 1)) 40 = true := by decide +kernel
theorem tri_checked : allN (fun s => coverB (fun i => Nat.div (Nat.mul i (Nat.add i 1)) 2) (s + 1) == meetsB .tri (s + 1)) 40 = true := by decide +kernel
theorem pp_checked : allN (fun s => (ppN (s + 1)).all fun q => decide ((s + 1) % q.1 ^ q.2 = 0)) 40 = true := by decide +kernel
theorem div_mod {x p m s : Nat} (h : s % p ^ m = 0) : ∀ f i, divGo x p m f i = divGo (x % s) p m f i
  | 0, i => rfl
  | f + 1, i => by
    unfold divGo
    by_cases q : i < m
    · have d : p ^ (i + 1) ∣ s := Nat.dvd_trans (Nat.pow_dvd_pow p (by omega)) (Nat.dvd_of_mod_eq_zero h)
      rw [Nat.mod_mod_of_dvd x d, div_mod h f (i + 1)]
    · rw [if_neg (fun z => q z.1), if_neg (fun z => q z.1)]
theorem all_congr' {α : Type} {l : List α} {f g : α → Bool} (h : ∀ x ∈ l, f x = g x) : l.all f = l.all g := by
  induction l with
  | nil => rfl
  | cons x r ih =>
    rw [List.all_cons, List.all_cons, h x List.mem_cons_self, ih fun y hy => h y (List.mem_cons_of_mem _ hy)]
theorem pp_div {s : Nat} (h1 : 1 ≤ s) (h2 : s ≤ 40) : ∀ q ∈ ppN s, s % q.1 ^ q.2 = 0 := by
  intro q hq
  have h := all_is pp_checked (s - 1) (by omega)
  rw [show s - 1 + 1 = s by omega] at h
  exact of_decide_eq_true (List.all_eq_true.mp h q hq)
theorem meets_sq {b c s : Nat} (h1 : 1 ≤ s) (h2 : s ≤ 40) : meetsB (.sq b c) s = meetsB (.sq (b % s) (c % s)) s := by
  unfold meetsB
  refine all_congr' fun q hq => ?_
  have d := pp_div h1 h2 q hq
  have e1 : divN b q.1 q.2 = divN (b % s) q.1 q.2 := div_mod d _ _
  have e2 : divN c q.1 q.2 = divN (c % s) q.1 q.2 := div_mod d _ _
  have e : metN (.sq b c) q.1 q.2 = metN (.sq (b % s) (c % s)) q.1 q.2 := by
    simp only [metN]
    rw [e1, e2]
  rw [e]
theorem meets_by {a s : Nat} (h1 : 1 ≤ s) (h2 : s ≤ 40) : meetsB (.by_ a) s = meetsB (.by_ (a % s)) s := by
  unfold meetsB
  refine all_congr' fun q hq => ?_
  have d := pp_div h1 h2 q hq
  have e1 : divN a q.1 q.2 = divN (a % s) q.1 q.2 := div_mod d _ _
  have e : metN (.by_ a) q.1 q.2 = metN (.by_ (a % s)) q.1 q.2 := by
    simp only [metN]
    rw [e1]
  rw [e]
/-- the rows of a kind that is not own have all cells exactly if the prime powers say so -/
theorem meets_is {K : Kd} {s : Nat} (hK : K ≠ .own) (h1 : 1 ≤ s) (h2 : s ≤ 40) (n : Nat) : decide ((rowN K s n).length = s) = meetsB K s := by
  have key : ∀ f : Nat → Nat, (∀ i, farN K s n i % s = f i % s) → coverB f s = meetsB K s → decide ((rowN K s n).length = s) = meetsB K s := fun f hf hc => by
    rw [← hc, Bool.eq_iff_iff, decide_eq_true_eq, row_cover K h1 n, cover_is h1]
    constructor
    · intro k c hc
      obtain ⟨i, hi, e⟩ := k c hc
      exact ⟨i, hi, by rw [← hf]; exact e⟩
    · intro k c hc
      obtain ⟨i, hi, e⟩ := k c hc
      exact ⟨i, hi, by rw [hf]; exact e⟩
  have es : s - 1 + 1 = s := by omega
  cases K with
  | own => exact absurd rfl hK
  | tri =>
    refine key _ (fun i => rfl) ?_
    have h := all_is tri_checked (s - 1) (by omega)
    rw [es] at h
    exact eq_of_beq h
  | by_ a =>
    refine key (fun i => Nat.mul (a % s) i) (fun i => ?_) ?_
    · show a * i % s = (a % s * i) % s
      rw [Nat.mod_mul_mod]
    · have h := all_is (all_is by_checked (s - 1) (by omega)) (a % s) (by rw [es]; exact Nat.mod_lt _ h1)
      rw [es] at h
      rw [meets_by h1 h2]
      exact eq_of_beq h
  | sq b c =>
    refine key (fun i => Nat.mul i (Nat.add (b % s) (Nat.mul (c % s) i))) (fun i => ?_) ?_
    · show (b * i + c * i * i) % s = (i * (b % s + c % s * i)) % s
      have e1 : b * i + c * i * i = i * (b + c * i) := by rw [Nat.mul_add, Nat.mul_comm b i, Nat.mul_comm (c * i) i]
      rw [e1, Nat.mul_mod i (b + c * i) s, Nat.mul_mod i (b % s + c % s * i) s, Nat.add_mod b (c * i) s, Nat.mul_mod c i s, Nat.add_mod (b % s) (c % s * i) s, Nat.mul_mod (c % s) i s, Nat.mod_mod, Nat.mod_mod]
    · have h := all_is (all_is (all_is sq_checked (s - 1) (by omega)) (b % s) (by rw [es]; exact Nat.mod_lt _ h1)) (c % s) (by rw [es]; exact Nat.mod_lt _ h1)
      rw [es] at h
      rw [meets_sq h1 h2]
      exact eq_of_beq h
end My
set_option Elab.async false
set_option linter.all false
set_option maxRecDepth 100000
set_option maxHeartbeats 4000000
namespace My
/-! ### how many residues are met -/
/-- how many of c < m are met by h -/
def num (h : Nat → Bool) (m : Nat) : Nat := ((List.range m).filter h).length
theorem num_congr {h g : Nat → Bool} {m : Nat} (e : ∀ c, c < m → h c = g c) : num h m = num g m := by
  unfold num
  rw [List.filter_congr fun c hc => e c (List.mem_range.mp hc)]
/-- a list of unlike numbers below m, as many as m: any count over it is the count over all -/
theorem num_perm {m : Nat} {l : List Nat} (nd : l.Nodup) (hl : l.length = m) (hm : ∀ x ∈ l, x < m) (h : Nat → Bool) : (l.filter h).length = num h m := by
  have all : ∀ c, c < m → c ∈ l := by
    have hr : rowL l = l := by
      have mem : ∀ (a acc : List Nat), acc.Nodup → (acc ++ a).Nodup → a.foldl rowStep acc = acc ++ a := by
        intro a
        induction a with
        | nil => intro acc _ _; simp
        | cons y a ih =>
          intro acc h1 h2
          rw [List.foldl_cons]
          have hy : y ∉ acc := fun z => by
            rw [List.nodup_append] at h2
            exact h2.2.2 y z y List.mem_cons_self rfl
          have e : rowStep acc y = acc ++ [y] := by unfold rowStep; rw [if_neg hy]
          rw [e, ih (acc ++ [y]) ?_ ?_]
          · rw [List.append_assoc]; rfl
          · rw [List.nodup_append]
            exact ⟨h1, by simp, fun a ha b hb q => hy (by rw [List.mem_singleton] at hb; rw [← hb, ← q]; exact ha)⟩
          · rw [List.append_assoc]; exact h2
      have e := mem l [] List.nodup_nil nd
      exact e
    exact (row_full hm).mp (by rw [hr]; exact hl)
  apply Nat.le_antisymm
  · exact sub_len _ _ (nd.filter _) fun x hx => by
      rw [List.mem_filter] at hx ⊢
      exact ⟨List.mem_range.mpr (hm x hx.1), hx.2⟩
  · exact sub_len _ _ (List.nodup_range.filter _) fun x hx => by
      rw [List.mem_filter] at hx ⊢
      exact ⟨all x (List.mem_range.mp hx.1), hx.2⟩
/-- counts over a + m * b -/
theorem num_split (h : Nat → Bool) (m : Nat) : ∀ n, num h (m * n) = ((List.range n).map fun b => num (fun a => h (m * b + a)) m).sum
  | 0 => rfl
  | n + 1 => by
    have ih := num_split h m n
    unfold num at ih ⊢
    rw [Nat.mul_succ, List.range_add, List.filter_append, List.length_append, ih, List.range_succ, List.map_append, List.sum_append, List.filter_map, List.length_map]
    rfl
theorem sum_const (n k : Nat) : ((List.range n).map fun _ => k).sum = n * k := by
  induction n with
  | zero => simp
  | succ n ih => rw [List.range_succ, List.map_append, List.sum_append, ih, Nat.succ_mul]; rfl
theorem mul_inj {a m x y : Nat} (g : Nat.gcd a m = 1) (hx : x < m) (hy : y < m) (e : a * x % m = a * y % m) : x = y := by
  have one : ∀ x y, y < m → x ≤ y → a * x % m = a * y % m → x = y := fun x y hy hxy e => by
    have d : m ∣ a * y - a * x := Nat.dvd_of_mod_eq_zero (Nat.sub_mod_eq_zero_of_mod_eq e.symm)
    rw [← Nat.mul_sub] at d
    have co : Nat.Coprime m a := by rw [Nat.coprime_comm]; exact g
    have d2 := co.dvd_of_dvd_mul_left d
    have := Nat.eq_zero_of_dvd_of_lt d2 (by omega)
    omega
  rcases Nat.le_total x y with q | q
  · exact one x y hy q e
  · exact (one y x hx q e.symm).symm
/-- counts do not change along an affine map with a unit -/
theorem num_affine {a m : Nat} (b : Nat) (hm : 1 ≤ m) (g : Nat.gcd a m = 1) (h : Nat → Bool) : num (fun x => h ((a * x + b) % m)) m = num h m := by
  have inj : ∀ x y, x < m → y < m → (a * x + b) % m = (a * y + b) % m → x = y := fun x y hx hy e => by
    refine mul_inj g hx hy ?_
    have l := Nat.mod_lt b hm
    have key : ∀ u, ((u + b) % m + (m - b % m)) % m = u % m := fun u => by
      rw [Nat.add_mod u b, Nat.mod_add_mod, show u % m + b % m + (m - b % m) = u % m + m by omega, Nat.add_mod_right, Nat.mod_mod]
    rw [← key (a * x), e, key]
  have nd : ((List.range m).map fun x => (a * x + b) % m).Nodup := by
    refine List.pairwise_map.mpr (List.Pairwise.imp_of_mem (R := fun x y => x < y) (fun {x y} hx hy h e => ?_) List.pairwise_lt_range)
    have := inj x y (List.mem_range.mp hx) (List.mem_range.mp hy) e
    omega
  have q := num_perm (m := m) nd (by rw [List.length_map, List.length_range]) (fun x hx => by
    obtain ⟨i, _, rfl⟩ := List.mem_map.mp hx
    exact Nat.mod_lt _ hm) h
  rw [List.filter_map, List.length_map] at q
  exact q
/-- two coprime sizes -/
theorem num_mul {m n : Nat} (hm : 1 ≤ m) (hn : 1 ≤ n) (g : Nat.gcd m n = 1) (h1 h2 : Nat → Bool) : num (fun c => h1 (c % m) && h2 (c % n)) (m * n) = num h1 m * num h2 n := by
  -- c = m * b + a: first along a
  have swap : num (fun c => h1 (c % m) && h2 (c % n)) (m * n) = ((List.range m).map fun a => num (fun b => h1 ((m * b + a) % m) && h2 ((m * b + a) % n)) n).sum := by
    rw [num_split]
    have sw : ∀ (f : Nat → Nat → Bool) (m n : Nat), ((List.range n).map fun b => num (fun a => f a b) m).sum = ((List.range m).map fun a => num (fun b => f a b) n).sum := by
      intro f m n
      induction n with
      | zero =>
        have z : ((List.range m).map fun a => num (fun b => f a b) 0) = (List.range m).map fun _ => 0 := List.map_congr_left fun a _ => rfl
        rw [z, sum_const]
        rfl
      | succ n ih =>
        rw [List.range_succ, List.map_append, List.sum_append, ih]
        have e : ∀ l : List Nat, (l.map fun a => num (fun b => f a b) (n + 1)).sum = (l.map fun a => num (fun b => f a b) n).sum + (l.filter fun a => f a n).length := by
          intro l
          induction l with
          | nil => rfl
          | cons x l ihl =>
            rw [List.map_cons, List.map_cons, List.sum_cons, List.sum_cons, ihl]
            have e1 : num (fun b => f x b) (n + 1) = num (fun b => f x b) n + if f x n = true then 1 else 0 := by
              unfold num
              rw [List.range_succ, List.filter_append, List.length_append]
              by_cases q : f x n = true
              · rw [if_pos q, List.filter_cons_of_pos (p := fun b => f x b) q]; rfl
              · rw [if_neg q, List.filter_cons_of_neg (p := fun b => f x b) q]; rfl
            rw [e1]
            by_cases q : f x n = true
            · rw [if_pos q, List.filter_cons_of_pos (p := fun a => f a n) q, List.length_cons]; omega
            · rw [if_neg q, List.filter_cons_of_neg (p := fun a => f a n) q]; omega
        rw [e]
        show _ + (num (fun a => f a n) m + 0) = _
        rfl
    exact sw (fun a b => h1 ((m * b + a) % m) && h2 ((m * b + a) % n)) m n
  rw [swap]
  have inner : ∀ a, a < m → num (fun b => h1 ((m * b + a) % m) && h2 ((m * b + a) % n)) n = if h1 a = true then num h2 n else 0 := fun a ha => by
    have e1 : ∀ b, (m * b + a) % m = a := fun b => by rw [Nat.mul_add_mod, Nat.mod_eq_of_lt ha]
    by_cases q : h1 a = true
    · rw [if_pos q, ← num_affine a hn g h2]
      exact num_congr fun b _ => by rw [e1, q, Bool.true_and]
    · rw [if_neg q]
      have z : num (fun b => h1 ((m * b + a) % m) && h2 ((m * b + a) % n)) n = num (fun _ => false) n := num_congr fun b _ => by
        rw [e1]
        cases w : h1 a with
        | true => exact absurd w q
        | false => rfl
      rw [z]
      unfold num
      rw [List.filter_eq_nil_iff.mpr fun _ _ => by decide]
      rfl
  have e2 : ((List.range m).map fun a => num (fun b => h1 ((m * b + a) % m) && h2 ((m * b + a) % n)) n) = (List.range m).map fun a => if h1 a = true then num h2 n else 0 := List.map_congr_left fun a ha => inner a (List.mem_range.mp ha)
  rw [e2]
  have e3 : ∀ l : List Nat, (l.map fun a => if h1 a = true then num h2 n else 0).sum = (l.filter h1).length * num h2 n := by
    intro l
    induction l with
    | nil => simp
    | cons x l ih =>
      rw [List.map_cons, List.sum_cons, ih]
      by_cases q : h1 x = true
      · rw [if_pos q, List.filter_cons_of_pos q, List.length_cons, Nat.succ_mul]; omega
      · rw [if_neg q, List.filter_cons_of_neg q]; omega
  exact e3 _
/-! ### what a sequence meets -/
open Classical in
/-- how many residues of m a sequence has -/
noncomputable def cnt (f : Nat → Nat) (m : Nat) : Nat := num (fun c => decide (∃ i, f i % m = c)) m
open Classical in
theorem cnt_congr {f g : Nat → Nat} {m : Nat} (h : ∀ c, c < m → ((∃ i, f i % m = c) ↔ ∃ i, g i % m = c)) : cnt f m = cnt g m := num_congr fun c hc => decide_eq_decide.mpr (h c hc)
theorem num_point {m c : Nat} (hc : c < m) : num (fun x => decide (x = c)) m = 1 := by
  apply Nat.le_antisymm
  · refine sub_len _ [c] (List.nodup_range.filter _) fun x hx => ?_
    rw [List.mem_filter] at hx
    rw [List.mem_singleton]
    exact of_decide_eq_true hx.2
  · refine sub_len [c] _ (by simp) fun x hx => ?_
    rw [List.mem_singleton] at hx
    subst hx
    exact List.mem_filter.mpr ⟨List.mem_range.mpr hc, decide_eq_true rfl⟩
open Classical in
theorem cnt_one (f : Nat → Nat) : cnt f 1 = 1 := by
  unfold cnt
  refine Eq.trans ?_ (num_point (m := 1) (c := 0) (by decide))
  refine num_congr fun c hc => decide_eq_decide.mpr ⟨fun ⟨i, e⟩ => by omega, fun e => ⟨0, by rw [e]; exact Nat.mod_one _⟩⟩
theorem mul_surj {a m c : Nat} (hm : 1 ≤ m) (g : Nat.gcd a m = 1) (hc : c < m) : ∃ x, x < m ∧ a * x % m = c := by
  have q := num_affine 0 hm g (fun y => decide (y = c))
  have one : 0 < num (fun y => decide (y = c)) m := List.length_pos_of_mem (List.mem_filter.mpr ⟨List.mem_range.mpr hc, decide_eq_true rfl⟩)
  rw [← q] at one
  obtain ⟨x, hx⟩ := List.exists_mem_of_length_pos one
  rw [List.mem_filter] at hx
  exact ⟨x, List.mem_range.mp hx.1, by have := of_decide_eq_true hx.2; rwa [Nat.add_zero] at this⟩
/-- a number with given rests by two coprime sizes -/
theorem chinese {m n : Nat} (hn : 1 ≤ n) (g : Nat.gcd m n = 1) (i j : Nat) : ∃ x, x % m = i % m ∧ x % n = j % n := by
  obtain ⟨t, _, ht⟩ := mul_surj (c := (j + (n - i % n)) % n) hn g (Nat.mod_lt _ hn)
  refine ⟨i + m * t, by rw [Nat.add_mul_mod_self_left], ?_⟩
  have l := Nat.mod_lt i hn
  rw [Nat.add_mod, ht, Nat.add_mod_mod, ← Nat.add_assoc, Nat.add_right_comm, show i % n + (n - i % n) + j = j + n by omega, Nat.add_mod_right]
/-- a sequence that returns -/
def Per (f : Nat → Nat) (m P : Nat) : Prop := 1 ≤ P ∧ ∀ x y, x % P = y % P → f x % m = f y % m
theorem co_mod {m n a b : Nat} (g : Nat.gcd m n = 1) (h1 : a % m = b % m) (h2 : a % n = b % n) : a % (m * n) = b % (m * n) := by
  have one : ∀ a b, a ≤ b → a % m = b % m → a % n = b % n → a % (m * n) = b % (m * n) := fun a b hab h1 h2 => by
    have d1 : m ∣ b - a := Nat.dvd_of_mod_eq_zero (Nat.sub_mod_eq_zero_of_mod_eq h1.symm)
    have d2 : n ∣ b - a := Nat.dvd_of_mod_eq_zero (Nat.sub_mod_eq_zero_of_mod_eq h2.symm)
    obtain ⟨k, hk⟩ := Nat.Coprime.mul_dvd_of_dvd_of_dvd g d1 d2
    have e : b = a + m * n * k := by omega
    rw [e, Nat.add_mul_mod_self_left]
  rcases Nat.le_total a b with q | q
  · exact one a b q h1 h2
  · exact (one b a q h1.symm h2.symm).symm
open Classical in
/-- what is met by a product of coprime sizes -/
theorem cnt_mul {f : Nat → Nat} {m n P R : Nat} (hm : 1 ≤ m) (hn : 1 ≤ n) (g : Nat.gcd m n = 1) (h1 : Per f m P) (h2 : Per f n R) (gp : Nat.gcd P R = 1) : cnt f (m * n) = cnt f m * cnt f n := by
  unfold cnt
  rw [← num_mul hm hn g]
  refine num_congr fun c hc => ?_
  rw [← Bool.decide_and]
  refine decide_eq_decide.mpr ⟨?_, ?_⟩
  · rintro ⟨i, rfl⟩
    exact ⟨⟨i, by rw [Nat.mod_mul_right_mod]⟩, ⟨i, by rw [Nat.mod_mul_left_mod]⟩⟩
  · rintro ⟨⟨i, hi⟩, ⟨j, hj⟩⟩
    obtain ⟨x, x1, x2⟩ := chinese h2.1 gp i j
    refine ⟨x, ?_⟩
    have e1 : f x % m = c % m := by rw [h1.2 x i x1, hi]
    have e2 : f x % n = c % n := by rw [h2.2 x j x2, hj]
    rw [co_mod g e1 e2, Nat.mod_eq_of_lt hc]
open Classical in
/-- an affine map with a unit changes no count -/
theorem cnt_affine {f : Nat → Nat} {a m : Nat} (b : Nat) (hm : 1 ≤ m) (g : Nat.gcd a m = 1) : cnt (fun i => a * f i + b) m = cnt f m := by
  unfold cnt
  rw [← num_affine b hm g]
  refine num_congr fun c hc => decide_eq_decide.mpr ⟨?_, ?_⟩
  · rintro ⟨i, e⟩
    have e2 : (a * (f i % m) + b) % m = (a * c + b) % m := by
      rw [← e, Nat.add_mod, Nat.mul_mod, Nat.mod_mod, ← Nat.mul_mod, ← Nat.add_mod]
    have l := Nat.mod_lt b hm
    have key : ∀ u, ((u + b) % m + (m - b % m)) % m = u % m := fun u => by
      rw [Nat.add_mod u b, Nat.mod_add_mod, show u % m + b % m + (m - b % m) = u % m + m by omega, Nat.add_mod_right, Nat.mod_mod]
    have e3 : a * (f i % m) % m = a * c % m := by rw [← key, e2, key]
    exact ⟨i, mul_inj g (Nat.mod_lt _ hm) hc e3⟩
  · rintro ⟨i, e⟩
    refine ⟨i, ?_⟩
    rw [← e, Nat.add_mod, Nat.mul_mod, ← Nat.mul_mod, Nat.add_mod (a * (f i % m)), Nat.mul_mod a (f i % m), Nat.mod_mod, ← Nat.mul_mod]
open Classical in
/-- a common factor -/
theorem cnt_scale {f : Nat → Nat} {d m : Nat} (hd : 1 ≤ d) (hm : 1 ≤ m) : cnt (fun i => d * f i) (d * m) = cnt f m := by
  unfold cnt
  rw [num_split]
  have inner : ∀ b, b < m → num (fun a => decide (∃ i, d * f i % (d * m) = d * b + a)) d = if decide (∃ i, f i % m = b) = true then 1 else 0 := fun b hb => by
    by_cases q : ∃ i, f i % m = b
    · rw [if_pos (decide_eq_true q), ← num_point (m := d) (c := 0) hd]
      refine num_congr fun a ha => decide_eq_decide.mpr ⟨?_, ?_⟩
      · rintro ⟨i, e⟩
        rw [Nat.mul_mod_mul_left] at e
        have e2 := congrArg (· % d) e
        simp only [Nat.mul_mod_right, Nat.mul_add_mod] at e2
        rw [Nat.mod_eq_of_lt ha] at e2
        exact e2.symm
      · rintro rfl
        obtain ⟨i, e⟩ := q
        exact ⟨i, by rw [Nat.mul_mod_mul_left, e, Nat.add_zero]⟩
    · rw [if_neg (by simpa using q)]
      have z : num (fun a => decide (∃ i, d * f i % (d * m) = d * b + a)) d = num (fun _ => false) d := num_congr fun a ha => decide_eq_false (by
        rintro ⟨i, e⟩
        rw [Nat.mul_mod_mul_left] at e
        have e2 := congrArg (· / d) e
        simp only [Nat.mul_div_cancel_left _ hd, Nat.mul_add_div hd, Nat.div_eq_of_lt ha, Nat.add_zero] at e2
        exact q ⟨i, e2⟩)
      rw [z]
      unfold num
      rw [List.filter_eq_nil_iff.mpr fun _ _ => by decide]
      rfl
  rw [List.map_congr_left fun b hb => inner b (List.mem_range.mp hb)]
  unfold num
  generalize List.range m = l
  induction l with
  | nil => rfl
  | cons x l ih =>
    rw [List.map_cons, List.sum_cons, ih]
    by_cases q : decide (∃ i, f i % m = x) = true
    · rw [if_pos q, List.filter_cons_of_pos (p := fun c => decide (∃ i, f i % m = c)) q, List.length_cons]; omega
    · rw [if_neg q, List.filter_cons_of_neg (p := fun c => decide (∃ i, f i % m = c)) q]; omega
/-! ### prime powers -/
def Pr (p : Nat) : Prop := 2 ≤ p ∧ ∀ d, 2 ≤ d → d < p → p % d ≠ 0
theorem Pr.co {p a : Nat} (h : Pr p) (ha : a % p ≠ 0) : Nat.gcd a p = 1 := by
  have d1 := Nat.gcd_dvd_right a p
  have d0 := Nat.gcd_dvd_left a p
  have pos : 0 < Nat.gcd a p := Nat.gcd_pos_of_pos_right a (by have := h.1; omega)
  have le : Nat.gcd a p ≤ p := Nat.le_of_dvd (by have := h.1; omega) d1
  by_cases one : Nat.gcd a p = 1
  · exact one
  · by_cases e : Nat.gcd a p = p
    · rw [e] at d0
      exact absurd (Nat.mod_eq_zero_of_dvd d0) ha
    · exact absurd (Nat.mod_eq_zero_of_dvd d1) (h.2 _ (by omega) (by omega))
theorem Pr.unit {p a : Nat} (h : Pr p) (ha : a % p ≠ 0) (k : Nat) : Nat.gcd a (p ^ k) = 1 := Nat.Coprime.pow_right k (h.co ha)
theorem pos_pow {p : Nat} (h : 2 ≤ p) (k : Nat) : 1 ≤ p ^ k := Nat.pow_pos (by omega)
theorem div_is {x p m : Nat} : ∀ f i, i + f = 14 → m ≤ 13 → i ≤ m → x % p ^ i = 0 → x % p ^ (divGo x p m f i) = 0 ∧ divGo x p m f i ≤ m ∧ (divGo x p m f i < m → x % p ^ (divGo x p m f i + 1) ≠ 0)
  | 0, i, e, hm, hi, h => by omega
  | f + 1, i, e, hm, hi, h => by
    unfold divGo
    by_cases q : i < m ∧ x % p ^ (i + 1) = 0
    · rw [if_pos q]
      exact div_is f (i + 1) (by omega) hm q.1 q.2
    · rw [if_neg q]
      exact ⟨h, hi, fun a b => q ⟨a, b⟩⟩
/-- a number as a power and a rest -/
theorem div_split {x p m : Nat} (hp : 2 ≤ p) (hm : m ≤ 13) : ∃ y, x = p ^ (divN x p m) * y ∧ divN x p m ≤ m ∧ (divN x p m < m → y % p ≠ 0) := by
  obtain ⟨h1, h2, h3⟩ := div_is (x := x) (p := p) 14 0 rfl hm (Nat.zero_le _) (by rw [Nat.pow_zero]; exact Nat.mod_one x)
  obtain ⟨y, hy⟩ := Nat.dvd_of_mod_eq_zero h1
  refine ⟨y, hy, h2, fun q z => h3 q ?_⟩
  obtain ⟨w, rfl⟩ := Nat.dvd_of_mod_eq_zero z
  refine Nat.mod_eq_zero_of_dvd ⟨w, ?_⟩
  rw [Nat.pow_succ, Nat.mul_assoc]
  exact hy
open Classical in
theorem cnt_full {h : Nat → Nat} {m : Nat} (hm : 1 ≤ m) (inj : ∀ x y, x ≤ y → y < m → h x % m = h y % m → x = y) : cnt h m = m := by
  have nd : ((List.range m).map fun i => h i % m).Nodup := by
    refine List.pairwise_map.mpr (List.Pairwise.imp_of_mem (R := fun x y => x < y) (fun {x y} hx hy h e => ?_) List.pairwise_lt_range)
    have := inj x y (by omega) (List.mem_range.mp hy) e
    omega
  have all := num_perm (m := m) nd (by rw [List.length_map, List.length_range]) (fun x hx => by
    obtain ⟨i, _, rfl⟩ := List.mem_map.mp hx
    exact Nat.mod_lt _ hm)
  have e : cnt h m = num (fun _ => true) m := by
    unfold cnt
    rw [← all, ← all]
    refine congrArg List.length (List.filter_congr fun c hc => ?_)
    obtain ⟨i, _, rfl⟩ := List.mem_map.mp hc
    exact decide_eq_true ⟨i, rfl⟩
  rw [e]
  unfold num
  rw [List.filter_eq_self.mpr fun _ _ => rfl, List.length_range]
theorem cnt_id {m : Nat} (hm : 1 ≤ m) : cnt (fun i => i) m = m := cnt_full hm fun x y hxy hy e => by
  rw [Nat.mod_eq_of_lt (by omega), Nat.mod_eq_of_lt hy] at e
  exact e
theorem cnt_fun {f g : Nat → Nat} {m : Nat} (h : ∀ i, f i % m = g i % m) : cnt f m = cnt g m := cnt_congr fun c _ => ⟨fun ⟨i, e⟩ => ⟨i, by rw [← h]; exact e⟩, fun ⟨i, e⟩ => ⟨i, by rw [h]; exact e⟩⟩
theorem cnt_scale' {f g : Nat → Nat} {d n m : Nat} (hd : 1 ≤ d) (hm : 1 ≤ m) (e1 : ∀ i, f i = d * g i) (e2 : n = d * m) : cnt f n = cnt g m := by
  rw [e2, ← cnt_scale hd hm]
  exact cnt_fun fun i => by rw [e1]
theorem pow_split {p v k : Nat} (h : v ≤ k) : p ^ k = p ^ v * p ^ (k - v) := by rw [← Nat.pow_add, show v + (k - v) = k by omega]
theorem cnt_by {a p k : Nat} (hp : Pr p) (hk : k ≤ 13) : cnt (fun i => a * i) (p ^ k) = p ^ (k - divN a p k) := by
  obtain ⟨y, e, h1, h2⟩ := div_split (x := a) hp.1 hk
  generalize divN a p k = v at e h1 h2 ⊢
  rw [cnt_scale' (g := fun i => y * i) (pos_pow hp.1 v) (pos_pow hp.1 (k - v)) (fun i => by rw [e, Nat.mul_assoc]) (pow_split h1)]
  by_cases q : v < k
  · have g := hp.unit (h2 q) (k - v)
    have c := cnt_affine (f := fun i => i) 0 (pos_pow hp.1 (k - v)) g
    rw [cnt_id (pos_pow hp.1 _)] at c
    exact c
  · rw [show k - v = 0 by omega, Nat.pow_zero]
    exact cnt_one _
open Classical in
/-- a full count meets all -/
theorem cnt_all {f : Nat → Nat} {m : Nat} (hm : 1 ≤ m) (h : cnt f m = m) : ∀ c, c < m → ∃ i, f i % m = c := by
  intro c hc
  refine Classical.byContradiction fun no => ?_
  have le := sub_len ((List.range m).filter fun c => decide (∃ i, f i % m = c)) ((List.range m).erase c) (List.nodup_range.filter _) fun x hx => by
    rw [List.mem_filter] at hx
    refine (List.mem_erase_of_ne ?_).mpr hx.1
    rintro rfl
    exact no (of_decide_eq_true hx.2)
  rw [List.length_erase_of_mem (List.mem_range.mpr hc), List.length_range] at le
  have h2 : ((List.range m).filter fun c => decide (∃ i, f i % m = c)).length = m := h
  omega
/-- b i + c i i, p in c and not in b, meets all -/
theorem cnt_lin {b c p j : Nat} (hp : Pr p) (hb : b % p ≠ 0) (hc : c % p = 0) : cnt (fun i => b * i + c * i * i) (p ^ j) = p ^ j := by
  refine cnt_full (pos_pow hp.1 j) fun x y hxy hy e => ?_
  have d : p ^ j ∣ (b * y + c * y * y) - (b * x + c * x * x) := Nat.dvd_of_mod_eq_zero (Nat.sub_mod_eq_zero_of_mod_eq e.symm)
  obtain ⟨z, rfl⟩ : ∃ z, y = x + z := ⟨y - x, by omega⟩
  have e2 : (b * (x + z) + c * (x + z) * (x + z)) - (b * x + c * x * x) = (b + c * (2 * x + z)) * z := by
    have : b * (x + z) + c * (x + z) * (x + z) = (b * x + c * x * x) + (b + c * (2 * x + z)) * z := by
      simp only [Nat.mul_add, Nat.add_mul, Nat.mul_assoc, Nat.two_mul]
      have c1 : c * (x * z) = c * (z * x) := by rw [Nat.mul_comm x z]
      omega
    omega
  rw [e2] at d
  have u : (b + c * (2 * x + z)) % p ≠ 0 := by
    obtain ⟨w, rfl⟩ := Nat.dvd_of_mod_eq_zero hc
    rw [Nat.mul_assoc, Nat.add_mul_mod_self_left]
    exact hb
  have co : Nat.Coprime (p ^ j) (b + c * (2 * x + z)) := by rw [Nat.coprime_comm]; exact hp.unit u j
  have d2 := co.dvd_of_dvd_mul_left d
  have := Nat.eq_zero_of_dvd_of_lt d2 (by omega)
  omega
/-- c i i + b i is as the squares, where the square can be made whole -/
theorem cnt_square {b c q : Nat} (hq : 1 ≤ q) (hc : Nat.gcd c q = 1) {t : Nat} (ht : 2 * (c * t) % q = b % q) : cnt (fun i => b * i + c * i * i) q = cnt (fun i => i * i) q := by
  have s1 := cnt_affine (f := fun i => b * i + c * i * i) (c * t * t) hq (Nat.gcd_one_left q)
  have s2 := cnt_affine (f := fun i => (i + t) * (i + t)) 0 hq hc
  have s3 : cnt (fun i => 1 * (b * i + c * i * i) + c * t * t) q = cnt (fun i => c * ((i + t) * (i + t)) + 0) q := cnt_fun fun i => by
    have e1 : c * ((i + t) * (i + t)) + 0 = 2 * (c * t) * i + (c * i * i + c * t * t) := by
      simp only [Nat.mul_add, Nat.add_mul, Nat.mul_assoc, Nat.two_mul]
      have c1 : c * (i * t) = c * (t * i) := by rw [Nat.mul_comm i t]
      omega
    have e2 : 1 * (b * i + c * i * i) + c * t * t = b * i + (c * i * i + c * t * t) := by omega
    rw [e1, e2, Nat.add_mod (b * i), Nat.add_mod (2 * (c * t) * i), Nat.mul_mod b i, Nat.mul_mod (2 * (c * t)) i, ht]
  have s4 : cnt (fun i => (i + t) * (i + t)) q = cnt (fun i => i * i) q := cnt_congr fun c _ => by
    constructor
    · rintro ⟨i, e⟩
      exact ⟨i + t, e⟩
    · rintro ⟨i, e⟩
      refine ⟨i + (q - t % q), ?_⟩
      have l := Nat.mod_lt t hq
      have e3 : (i + (q - t % q) + t) % q = i % q := by
        rw [← Nat.add_mod_mod, show i + (q - t % q) + t % q = i + q by omega, Nat.add_mod_right]
      rw [Nat.mul_mod, e3, ← Nat.mul_mod]
      exact e
  rw [← s1, s3, s2, s4]
/-- both odd, by powers of 2: the even residues -/
theorem cnt_even {b c j : Nat} (hb : b % 2 = 1) (hc : c % 2 = 1) (hj : 1 ≤ j) : cnt (fun i => b * i + c * i * i) (2 ^ j) = 2 ^ (j - 1) := by
  have p2 : Pr 2 := ⟨Nat.le_refl _, fun d d1 d2 => by omega⟩
  have full := cnt_lin (b := b) (c := 2 * c) (j := j - 1) p2 (by omega) (by omega)
  have e2 : (2 : Nat) ^ j = 2 * 2 ^ (j - 1) := by rw [Nat.mul_comm, ← Nat.pow_succ, show (j - 1).succ = j by omega]
  have pos := pos_pow (p := 2) (Nat.le_refl _) (j - 1)
  have sc := cnt_scale (f := fun i => b * i + 2 * c * i * i) (d := 2) (by decide) pos
  rw [← e2] at sc
  rw [← full, ← sc]
  -- all of the lesser size are met
  have hit : ∀ d, d < 2 ^ (j - 1) → ∃ i, (b * i + 2 * c * i * i) % 2 ^ (j - 1) = d := cnt_all pos full
  refine cnt_congr fun d hd => ⟨?_, ?_⟩
  · rintro ⟨i, e⟩
    have ev : (b * i + c * i * i) % 2 = 0 := by
      have e3 : b * i + c * i * i = i * (b + c * i) := by
        rw [Nat.mul_add, Nat.mul_comm i b, Nat.mul_left_comm i c i, ← Nat.mul_assoc]
      rw [e3, Nat.mul_mod, Nat.add_mod, Nat.mul_mod c i, hb, hc]
      rcases Nat.mod_two_eq_zero_or_one i with q | q <;> rw [q]
    have de : d % 2 = 0 := by
      rw [← e, e2, Nat.mod_mul_right_mod]
      exact ev
    obtain ⟨i2, h2⟩ := hit (d / 2) (by omega)
    refine ⟨i2, ?_⟩
    show 2 * (b * i2 + 2 * c * i2 * i2) % 2 ^ j = d
    rw [e2, Nat.mul_mod_mul_left, h2]
    omega
  · rintro ⟨i, e⟩
    refine ⟨2 * i, ?_⟩
    rw [← e]
    show (b * (2 * i) + c * (2 * i) * (2 * i)) % 2 ^ j = 2 * (b * i + 2 * c * i * i) % 2 ^ j
    congr 1
    simp only [Nat.mul_add, Nat.mul_assoc, Nat.mul_left_comm]
theorem cnt_tri2 (k : Nat) : cnt (fun i => i * (i + 1) / 2) (2 ^ k) = 2 ^ k := by
  refine cnt_full (pos_pow (by decide) k) fun x y hxy hy e => ?_
  have d : 2 ^ k ∣ y * (y + 1) / 2 - x * (x + 1) / 2 := Nat.dvd_of_mod_eq_zero (Nat.sub_mod_eq_zero_of_mod_eq e.symm)
  have ev : ∀ n : Nat, n * (n + 1) / 2 * 2 = n * (n + 1) := fun n => Nat.div_mul_cancel (Nat.dvd_of_mod_eq_zero (by
    rw [Nat.mul_mod, Nat.add_mod]
    rcases Nat.mod_two_eq_zero_or_one n with q | q <;> rw [q]))
  have d2 : 2 ^ k * 2 ∣ y * (y + 1) - x * (x + 1) := by
    rw [← ev y, ← ev x, ← Nat.sub_mul]
    exact Nat.mul_dvd_mul_right d 2
  obtain ⟨z, rfl⟩ : ∃ z, y = x + z := ⟨y - x, by omega⟩
  have e2 : (x + z) * (x + z + 1) - x * (x + 1) = z * (2 * x + z + 1) := by
    have : (x + z) * (x + z + 1) = x * (x + 1) + z * (2 * x + z + 1) := by
      simp only [Nat.mul_add, Nat.add_mul, Nat.mul_one, Nat.two_mul]
      have c1 : z * x = x * z := Nat.mul_comm z x
      omega
    omega
  rw [e2, ← Nat.pow_succ] at d2
  have p2 : Pr 2 := ⟨Nat.le_refl _, fun d d1 d2 => by omega⟩
  have big : (2 : Nat) ^ (k + 1) = 2 * 2 ^ k := by rw [Nat.pow_succ, Nat.mul_comm]
  by_cases q : z % 2 = 0
  · have u : (2 * x + z + 1) % 2 ≠ 0 := by omega
    have co : Nat.Coprime (2 ^ (k + 1)) (2 * x + z + 1) := by rw [Nat.coprime_comm]; exact p2.unit u (k + 1)
    have d3 := co.dvd_of_dvd_mul_right d2
    have := Nat.eq_zero_of_dvd_of_lt d3 (by omega)
    omega
  · have co : Nat.Coprime (2 ^ (k + 1)) z := by rw [Nat.coprime_comm]; exact p2.unit q (k + 1)
    have d3 := co.dvd_of_dvd_mul_left d2
    have := Nat.eq_zero_of_dvd_of_lt d3 (by omega)
    omega
/-- by odd sizes triangles are as the squares -/
theorem cnt_tri {q : Nat} (hq : 1 ≤ q) (odd : q % 2 = 1) : cnt (fun i => i * (i + 1) / 2) q = cnt (fun i => i * i) q := by
  have g2 : Nat.gcd 2 q = 1 := by
    have d := Nat.gcd_dvd_left 2 q
    have d2 := Nat.gcd_dvd_right 2 q
    have le := Nat.le_of_dvd (by decide) d
    by_cases e : Nat.gcd 2 q = 2
    · rw [e] at d2
      have := Nat.mod_eq_zero_of_dvd d2
      omega
    · have pos : 0 < Nat.gcd 2 q := Nat.gcd_pos_of_pos_left q (by decide)
      omega
  have g8 : Nat.gcd 8 q = 1 := Nat.Coprime.pow_left 3 g2
  have ev : ∀ n : Nat, n * (n + 1) / 2 * 2 = n * (n + 1) := fun n => Nat.div_mul_cancel (Nat.dvd_of_mod_eq_zero (by
    rw [Nat.mul_mod, Nat.add_mod]
    rcases Nat.mod_two_eq_zero_or_one n with q | q <;> rw [q]))
  rw [← cnt_affine 1 hq g8]
  refine cnt_congr fun c _ => ⟨?_, ?_⟩
  · rintro ⟨i, e⟩
    refine ⟨2 * i + 1, ?_⟩
    rw [← e]
    congr 1
    have := ev i
    have e3 : i * (i + 1) = i * i + i := Nat.mul_succ i i
    show (2 * i + 1) * (2 * i + 1) = 8 * (i * (i + 1) / 2) + 1
    have e4 : (2 * i + 1) * (2 * i + 1) = 4 * (i * i) + 4 * i + 1 := by
      simp only [Nat.mul_add, Nat.add_mul, Nat.mul_one, Nat.one_mul, Nat.mul_assoc, Nat.mul_left_comm i 2 i]
      omega
    omega
  · rintro ⟨i, e⟩
    -- 2 x + 1 is i by q
    obtain ⟨x, _, hx⟩ := mul_surj (c := (i + (q - 1 % q)) % q) hq g2 (Nat.mod_lt _ hq)
    refine ⟨x, ?_⟩
    have e5 : (2 * x + 1) % q = i % q := by
      rw [Nat.add_mod, hx, Nat.add_mod_mod, Nat.mod_add_mod]
      by_cases one : q = 1
      · subst one; rw [Nat.mod_one, Nat.mod_one]
      · rw [show i + (q - 1 % q) + 1 = i + q by rw [Nat.mod_eq_of_lt (show 1 < q by omega)]; omega, Nat.add_mod_right]
    rw [← e, Nat.mul_mod i i, ← e5, ← Nat.mul_mod]
    congr 1
    have := ev x
    have e3 : x * (x + 1) = x * x + x := Nat.mul_succ x x
    show 8 * (x * (x + 1) / 2) + 1 = (2 * x + 1) * (2 * x + 1)
    have e4 : (2 * x + 1) * (2 * x + 1) = 4 * (x * x) + 4 * x + 1 := by
      simp only [Nat.mul_add, Nat.add_mul, Nat.mul_one, Nat.one_mul, Nat.mul_assoc, Nat.mul_left_comm x 2 x]
      omega
    omega
theorem num_succ (h : Nat → Bool) (n : Nat) : num h (n + 1) = num h n + if h n = true then 1 else 0 := by
  unfold num
  rw [List.range_succ, List.filter_append, List.length_append]
  by_cases q : h n = true
  · rw [if_pos q, List.filter_cons_of_pos q]; rfl
  · rw [if_neg q, List.filter_cons_of_neg q]; rfl
noncomputable def popc (m n : Nat) : Nat := Nat.rec 0 (fun c acc => Nat.add acc (Nat.mod (Nat.div m (Nat.pow 2 c)) 2)) n
theorem popc_is (m : Nat) : ∀ n, popc m n = num (fun c => m.testBit c) n
  | 0 => rfl
  | n + 1 => by
    rw [num_succ, ← popc_is m n]
    show popc m n + m / 2 ^ n % 2 = _
    rw [Nat.testBit_eq_decide_div_mod_eq]
    by_cases q : m / 2 ^ n % 2 = 1
    · rw [if_pos (decide_eq_true q), q]
    · rw [if_neg (by rw [decide_eq_false q]; decide)]
      have := Nat.mod_lt (m / 2 ^ n) (show 2 > 0 by decide)
      omega
noncomputable def primeK (p : Nat) : Bool := Nat.rec true (fun d b => and b (or (Nat.ble p (Nat.add d 2)) (!(Nat.beq (Nat.mod p (Nat.add d 2)) 0)))) p
theorem primeK_of {p : Nat} (h : Pr p) : primeK p = true := by
  have key : ∀ n, (Nat.rec true (fun d b => and b (or (Nat.ble p (Nat.add d 2)) (!(Nat.beq (Nat.mod p (Nat.add d 2)) 0)))) n : Bool) = true := by
    intro n
    induction n with
    | zero => rfl
    | succ n ih =>
      show (and _ (or (Nat.ble p (n + 2)) (!(Nat.beq (p % (n + 2)) 0)))) = true
      rw [ih, Bool.true_and]
      by_cases q : p ≤ n + 2
      · rw [Nat.ble_eq_true_of_le q, Bool.true_or]
      · have ne := h.2 (n + 2) (by omega) (by omega)
        have e : Nat.beq (p % (n + 2)) 0 = false := by
          cases w : Nat.beq (p % (n + 2)) 0 with
          | false => rfl
          | true => exact absurd (Nat.eq_of_beq_eq_true w) ne
        rw [e, Bool.or_eq_true]
        exact .inr rfl
  exact key p
theorem squares_checked : allN (fun p => or (or (Nat.ble p 1) (!(primeK p))) (allN (fun k => or (Nat.ble 1001 (Nat.pow p k)) (Nat.beq (popc (mask (fun i => Nat.mul i i) (Nat.pow p k) (Nat.pow p k)) (Nat.pow p k)) (sqN p k))) 10)) 1001 = true := by decide +kernel
open Classical in
theorem cnt_mask {f : Nat → Nat} {m : Nat} (hm : 1 ≤ m) (per : ∀ i, f i % m = f (i % m) % m) : cnt f m = popc (mask f m m) m := by
  rw [popc_is]
  unfold cnt
  refine num_congr fun c hc => ?_
  cases w : (mask f m m).testBit c with
  | true =>
    obtain ⟨i, _, e⟩ := (mask_bit f m c m).mp w
    exact decide_eq_true ⟨i, e⟩
  | false =>
    refine decide_eq_false ?_
    rintro ⟨i, e⟩
    have := (mask_bit f m c m).mpr ⟨i % m, Nat.mod_lt _ hm, by rw [← per]; exact e⟩
    rw [w] at this
    cases this
theorem ten {p k : Nat} (hp : 2 ≤ p) (h : p ^ k ≤ 1000) : k < 10 := Nat.lt_of_not_le fun q => by
  have h1 : 2 ^ k ≤ p ^ k := Nat.pow_le_pow_left hp k
  have h2 : 2 ^ 10 ≤ 2 ^ k := Nat.pow_le_pow_right (by decide) q
  omega
theorem cnt_sq {p k : Nat} (hp : Pr p) (h : p ^ k ≤ 1000) : cnt (fun i => i * i) (p ^ k) = sqN p k := by
  by_cases z : k = 0
  · subst z
    rw [Nat.pow_zero, cnt_one]
    rfl
  have pl : p ≤ 1000 := Nat.le_trans (Nat.le_self_pow z p) h
  have c := all_is squares_checked p (by omega)
  have c : (((Nat.ble p 1) || !(primeK p)) || (allN (fun k => or (Nat.ble 1001 (Nat.pow p k)) (Nat.beq (popc (mask (fun i => Nat.mul i i) (Nat.pow p k) (Nat.pow p k)) (Nat.pow p k)) (sqN p k))) 10)) = true := c
  have nb : Nat.ble p 1 = false := by
    cases w : Nat.ble p 1 with
    | false => rfl
    | true => exact absurd (Nat.le_of_ble_eq_true w) (by have := hp.1; omega)
  rw [primeK_of hp, nb, Bool.not_true, Bool.or_false, Bool.false_or] at c
  have c2 := all_is c k (ten hp.1 h)
  have c2 : (Nat.ble 1001 (p ^ k) || Nat.beq (popc (mask (fun i => i * i) (p ^ k) (p ^ k)) (p ^ k)) (sqN p k)) = true := c2
  rw [Bool.or_eq_true] at c2
  rcases c2 with c2 | c2
  · have := Nat.le_of_ble_eq_true c2
    omega
  · rw [cnt_mask (pos_pow hp.1 k) fun i => by rw [Nat.mul_mod]]
    exact Nat.eq_of_beq_eq_true c2
end My
set_option Elab.async false
set_option linter.all false
set_option maxRecDepth 100000
set_option maxHeartbeats 4000000
namespace My
theorem met_sq {b c p k : Nat} (hp : Pr p) (h : p ^ k ≤ 1000) : cnt (fun i => b * i + c * i * i) (p ^ k) = metN (.sq b c) p k := by
  have hk : k ≤ 13 := by have := ten hp.1 h; omega
  obtain ⟨b1, eb, ub, pb⟩ := div_split (x := b) hp.1 hk
  obtain ⟨c1, ec, uc, pc⟩ := div_split (x := c) hp.1 hk
  show _ = if divN b p k < divN c p k ∨ (divN b p k = k ∧ divN c p k = k) then p ^ (k - divN b p k) else if divN b p k = divN c p k ∧ p = 2 then 2 ^ (k - divN b p k - 1) else sqN p (k - divN c p k)
  generalize divN b p k = u at eb ub pb ⊢
  generalize divN c p k = v at ec uc pc ⊢
  have pu := pos_pow hp.1 u
  have pv := pos_pow hp.1 v
  by_cases w : u < v ∨ (u = k ∧ v = k)
  · rw [if_pos w]
    have vs : c = p ^ u * (p ^ (v - u) * c1) := by
      rw [ec, ← Nat.mul_assoc, ← Nat.pow_add, show u + (v - u) = v by omega]
    have sp : ∀ i, b * i + c * i * i = p ^ u * (b1 * i + (p ^ (v - u) * c1) * i * i) := fun i => by
      have x1 : b * i = p ^ u * (b1 * i) := by rw [eb, Nat.mul_assoc]
      have x2 : c * i * i = p ^ u * ((p ^ (v - u) * c1) * i * i) := by rw [vs]; simp only [Nat.mul_assoc]
      rw [Nat.mul_add, x1, x2]
    rw [cnt_scale' (g := fun i => b1 * i + (p ^ (v - u) * c1) * i * i) pu (pos_pow hp.1 (k - u)) sp (pow_split ub)]
    rcases w with w | w
    · refine cnt_lin hp (pb (by omega)) ?_
      rw [show v - u = (v - u - 1) + 1 by omega, Nat.pow_succ, Nat.mul_assoc, Nat.mul_left_comm]
      exact Nat.mul_mod_right _ _
    · rw [show k - u = 0 by omega, Nat.pow_zero]
      exact cnt_one _
  · rw [if_neg w]
    have vk : v < k := by omega
    by_cases w2 : u = v ∧ p = 2
    · rw [if_pos w2]
      obtain ⟨w3, w4⟩ := w2
      subst w3 w4
      have sp : ∀ i, b * i + c * i * i = 2 ^ u * (b1 * i + c1 * i * i) := fun i => by
        have x1 : b * i = 2 ^ u * (b1 * i) := by rw [eb, Nat.mul_assoc]
        have x2 : c * i * i = 2 ^ u * (c1 * i * i) := by rw [ec]; simp only [Nat.mul_assoc]
        rw [Nat.mul_add, x1, x2]
      rw [cnt_scale' (g := fun i => b1 * i + c1 * i * i) pu (pos_pow hp.1 (k - u)) sp (pow_split ub)]
      refine cnt_even ?_ ?_ (by omega)
      · have := pb vk; omega
      · have := pc vk; omega
    · rw [if_neg w2]
      have bs : b = p ^ v * (p ^ (u - v) * b1) := by
        rw [eb, ← Nat.mul_assoc, ← Nat.pow_add, show v + (u - v) = u by omega]
      have sp : ∀ i, b * i + c * i * i = p ^ v * ((p ^ (u - v) * b1) * i + c1 * i * i) := fun i => by
        have x1 : b * i = p ^ v * ((p ^ (u - v) * b1) * i) := by rw [bs]; simp only [Nat.mul_assoc]
        have x2 : c * i * i = p ^ v * (c1 * i * i) := by rw [ec]; simp only [Nat.mul_assoc]
        rw [Nat.mul_add, x1, x2]
      rw [cnt_scale' (g := fun i => (p ^ (u - v) * b1) * i + c1 * i * i) pv (pos_pow hp.1 (k - v)) sp (pow_split uc)]
      have q0 := pos_pow hp.1 (k - v)
      have gc := hp.unit (pc vk) (k - v)
      have ex : ∃ t, 2 * (c1 * t) % p ^ (k - v) = (p ^ (u - v) * b1) % p ^ (k - v) := by
        by_cases two : p = 2
        · subst two
          obtain ⟨t, _, ht⟩ := mul_surj (c := (2 ^ (u - v - 1) * b1) % 2 ^ (k - v)) q0 gc (Nat.mod_lt _ q0)
          refine ⟨t, ?_⟩
          rw [Nat.mul_mod, ht, ← Nat.mul_mod, show u - v = (u - v - 1) + 1 by omega, Nat.pow_succ, show u - v - 1 + 1 - 1 = u - v - 1 by omega, Nat.mul_assoc, Nat.mul_left_comm]
        · have g2 : Nat.gcd 2 (p ^ (k - v)) = 1 := hp.unit (by have := hp.1; rw [Nat.mod_eq_of_lt (by omega)]; decide) (k - v)
          have gg : Nat.gcd (2 * c1) (p ^ (k - v)) = 1 := Nat.Coprime.mul_left g2 gc
          obtain ⟨t, _, ht⟩ := mul_surj (c := (p ^ (u - v) * b1) % p ^ (k - v)) q0 gg (Nat.mod_lt _ q0)
          exact ⟨t, by rw [← Nat.mul_assoc]; exact ht⟩
      obtain ⟨t, ht⟩ := ex
      rw [cnt_square q0 gc ht]
      refine cnt_sq hp ?_
      exact Nat.le_trans (Nat.pow_le_pow_right (by have := hp.1; omega) (Nat.sub_le k v)) h
theorem odd_pow {p k : Nat} (h : p % 2 = 1) : p ^ k % 2 = 1 := by
  rw [Nat.pow_mod, h, Nat.one_pow]
/-- what the steps of a kind meet by a prime power -/
theorem met_is {K : Kd} {p k s n : Nat} (hK : K ≠ .own) (hp : Pr p) (h : p ^ k ≤ 1000) : cnt (farN K s n) (p ^ k) = metN K p k := by
  have hk : k ≤ 13 := by have := ten hp.1 h; omega
  cases K with
  | own => exact absurd rfl hK
  | by_ a => exact cnt_by hp hk
  | sq b c => exact met_sq hp h
  | tri =>
    show cnt (fun i => i * (i + 1) / 2) (p ^ k) = if p = 2 then 2 ^ k else sqN p k
    by_cases two : p = 2
    · subst two
      rw [if_pos rfl]
      exact cnt_tri2 k
    · rw [if_neg two]
      have odd : p % 2 = 1 := by
        have := hp.2 2 (Nat.le_refl _) (by have := hp.1; omega)
        omega
      rw [cnt_tri (pos_pow hp.1 k) (odd_pow odd)]
      exact cnt_sq hp h
/-! ### periods -/
theorem mul_per {a m x y : Nat} (h : x % m = y % m) : a * x % m = a * y % m := by rw [Nat.mul_mod, h, ← Nat.mul_mod]
theorem odd_two {m : Nat} (h : m % 2 = 1) : Nat.gcd 2 m = 1 := by
  have p2 : Pr 2 := ⟨Nat.le_refl _, fun d d1 d2 => by omega⟩
  rw [Nat.gcd_comm]
  exact p2.co (by omega)
theorem tri_two (n : Nat) : 2 * (n * (n + 1) / 2) = n * (n + 1) := Nat.mul_div_cancel' (Nat.dvd_of_mod_eq_zero (by
    rw [Nat.mul_mod, Nat.add_mod]
    rcases Nat.mod_two_eq_zero_or_one n with q | q <;> rw [q]))
theorem tri_mod {x y m : Nat} (h : x % m = y % m) : (x * (x + 1)) % m = (y * (y + 1)) % m := by
  rw [Nat.mul_mod, Nat.add_mod, h, ← Nat.add_mod, ← Nat.mul_mod]
theorem far_per {K : Kd} (hK : K ≠ .own) {s n m : Nat} (hm : 1 ≤ m) (odd : m % 2 = 1 ∨ K ≠ .tri) : Per (farN K s n) m m := by
  refine ⟨hm, fun x y h => ?_⟩
  cases K with
  | own => exact absurd rfl hK
  | by_ a => exact mul_per h
  | sq b c =>
    show (b * x + c * x * x) % m = (b * y + c * y * y) % m
    rw [Nat.add_mod, mul_per (a := b) h, Nat.mul_mod (c * x), mul_per (a := c) h, h, ← Nat.mul_mod, ← Nat.add_mod]
  | tri =>
    rcases odd with odd | no
    · show (x * (x + 1) / 2) % m = (y * (y + 1) / 2) % m
      refine mul_inj (odd_two odd) (Nat.mod_lt _ hm) (Nat.mod_lt _ hm) ?_
      rw [Nat.mul_mod, Nat.mod_mod, ← Nat.mul_mod, Nat.mul_mod 2 (_ % m), Nat.mod_mod, ← Nat.mul_mod, tri_two, tri_two]
      exact tri_mod h
    · exact absurd rfl no
theorem far_per2 {K : Kd} (hK : K ≠ .own) {s n m : Nat} (hm : 1 ≤ m) : Per (farN K s n) m (2 * m) := by
  by_cases q : K = .tri
  · subst q
    refine ⟨by omega, fun x y h => ?_⟩
    show (x * (x + 1) / 2) % m = (y * (y + 1) / 2) % m
    have e := tri_mod h
    rw [← tri_two, ← tri_two y, Nat.mul_mod_mul_left, Nat.mul_mod_mul_left] at e
    omega
  · have p := far_per hK (s := s) (n := n) hm (.inr q)
    refine ⟨by omega, fun x y h => p.2 x y ?_⟩
    have e := congrArg (· % m) h
    simp only [Nat.mod_mul_left_mod] at e
    exact e
open Classical in
theorem cnt_le (f : Nat → Nat) (m : Nat) : cnt f m ≤ m := by
  have := List.length_filter_le (fun c => decide (∃ i, f i % m = c)) (List.range m)
  rw [List.length_range] at this
  exact this
/-! ### the prime powers of a size -/
theorem strip_is {p : Nat} (hp : 2 ≤ p) : ∀ f n, 1 ≤ n → n < 2 ^ f → n = p ^ (strip p f n).2 * (strip p f n).1 ∧ (strip p f n).1 % p ≠ 0 ∧ 1 ≤ (strip p f n).1
  | 0, n, h, l => by rw [Nat.pow_zero] at l; omega
  | f + 1, n, h, l => by
    unfold strip
    by_cases z : n % p = 0
    · rw [if_pos z]
      obtain ⟨c, rfl⟩ := Nat.dvd_of_mod_eq_zero z
      rw [Nat.mul_div_cancel_left _ (show 0 < p by omega)]
      have c1 : 1 ≤ c := Nat.pos_of_ne_zero fun q => by rw [q, Nat.mul_zero] at h; omega
      have le := Nat.mul_le_mul_right c hp
      obtain ⟨e1, e2, e3⟩ := strip_is hp f c c1 (by rw [Nat.pow_succ] at l; omega)
      refine ⟨?_, e2, e3⟩
      show p * c = p ^ ((strip p f c).2 + 1) * (strip p f c).1
      rw [Nat.pow_succ, Nat.mul_assoc, Nat.mul_left_comm, ← e1]
    · rw [if_neg z]
      exact ⟨by rw [Nat.pow_zero, Nat.one_mul], z, h⟩
def prodN (K : Kd) (l : List (Nat × Nat)) : Nat := l.foldr (fun q a => metN K q.1 q.2 * a) 1
def allM (K : Kd) (l : List (Nat × Nat)) : Bool := l.all fun q => decide (metN K q.1 q.2 = q.1 ^ q.2)
theorem mul_eq_mul {a b x y : Nat} (ha : a ≤ x) (hb : b ≤ y) (hx : 1 ≤ x) (hy : 1 ≤ y) : a * b = x * y ↔ a = x ∧ b = y := by
  constructor
  · intro e
    have h1 : a * b ≤ x * b := Nat.mul_le_mul_right b ha
    have h2 : x * b ≤ x * y := Nat.mul_le_mul_left x hb
    have e2 : x * b = x * y := by omega
    have e3 : b = y := Nat.eq_of_mul_eq_mul_left hx e2
    refine ⟨?_, e3⟩
    rw [e3] at e
    exact Nat.eq_of_mul_eq_mul_right hy e
  · rintro ⟨rfl, rfl⟩; rfl
theorem pp_met {K : Kd} (hK : K ≠ .own) (s n : Nat) : ∀ f m p, 1 ≤ m → m ≤ 1000 → 2 ≤ p → p ≤ 65 → 68 ≤ f + p → (∀ d, 2 ≤ d → d < p → m % d ≠ 0) → cnt (farN K s n) m = prodN K (ppGo f m p) ∧ (cnt (farN K s n) m = m ↔ allM K (ppGo f m p) = true)
  | 0, m, p, h1, h2, hp, hp2, hf, hd => by omega
  | f + 1, m, p, h1, h2, hp, hp2, hf, hd => by
    unfold ppGo
    by_cases le : p * p ≤ m
    · rw [if_pos le]
      have p64 : p ≤ 64 := Nat.le_of_not_lt fun h => by
        have := Nat.mul_le_mul (show 65 ≤ p from h) (show 65 ≤ p from h)
        omega
      obtain ⟨e1, e2, e3⟩ := strip_is hp 13 m h1 (by have : (2:Nat) ^ 13 = 8192 := by decide
                                                     omega)
      have st : ¬ (strip p 13 m).2 > 0 → (strip p 13 m).1 = m := fun q => by
        rw [show (strip p 13 m).2 = 0 by omega, Nat.pow_zero, Nat.one_mul] at e1
        exact e1.symm
      generalize hr : (strip p 13 m).1 = r at e1 e2 e3 st ⊢
      generalize hk : (strip p 13 m).2 = k at e1 st ⊢
      have rm : r ∣ m := ⟨p ^ k, by rw [Nat.mul_comm]; exact e1⟩
      have hd2 : ∀ d, 2 ≤ d → d < p + 1 → r % d ≠ 0 := fun d d1 d2 z => by
        by_cases q : d = p
        · rw [q] at z; exact e2 z
        · exact hd d d1 (by omega) (Nat.mod_eq_zero_of_dvd (Nat.dvd_trans (Nat.dvd_of_mod_eq_zero z) rm))
      have rle : r ≤ m := Nat.le_of_dvd h1 rm
      obtain ⟨i1, i2⟩ := pp_met hK s n f r (p + 1) e3 (by omega) (by omega) (by omega) (by omega) hd2
      by_cases k0 : k > 0
      · rw [if_pos k0]
        have mp : m % p = 0 := Nat.mod_eq_zero_of_dvd ⟨p ^ (k - 1) * r, by
          rw [← Nat.mul_assoc, Nat.mul_comm p, ← Nat.pow_succ, show (k - 1).succ = k by omega]; exact e1⟩
        have pr : Pr p := ⟨hp, fun d d1 d2 z => hd d d1 d2 (Nat.mod_eq_zero_of_dvd (Nat.dvd_trans (Nat.dvd_of_mod_eq_zero z) (Nat.dvd_of_mod_eq_zero mp)))⟩
        have pk := pos_pow hp k
        have pkm : p ^ k ≤ m := Nat.le_of_dvd h1 ⟨r, e1⟩
        have g : ∀ j, Nat.gcd (p ^ j) r = 1 := fun j => by rw [Nat.gcd_comm]; exact pr.unit e2 j
        have met := met_is (s := s) (n := n) hK pr (show p ^ k ≤ 1000 by omega)
        have split : cnt (farN K s n) m = metN K p k * cnt (farN K s n) r := by
          rw [e1, ← met]
          by_cases two : p = 2
          · subst two
            have ro : r % 2 = 1 := by omega
            have P1 : Per (farN K s n) (2 ^ k) (2 ^ (k + 1)) := by
              rw [Nat.pow_succ, Nat.mul_comm]
              exact far_per2 hK pk
            exact cnt_mul pk e3 (g k) P1 (far_per hK e3 (.inl ro)) (g (k + 1))
          · have mo : m % 2 ≠ 0 := hd 2 (Nat.le_refl _) (by omega)
            have po : p % 2 = 1 := by
              have := pr.2 2 (Nat.le_refl _) (by omega)
              omega
            have ro : r % 2 = 1 := by
              have := hd2 2 (Nat.le_refl _) (by omega)
              omega
            exact cnt_mul pk e3 (g k) (far_per hK pk (.inl (odd_pow po))) (far_per hK e3 (.inl ro)) (g k)
        have c1 : metN K p k ≤ p ^ k := by rw [← met]; exact cnt_le _ _
        refine ⟨?_, ?_⟩
        · rw [split, i1]; rfl
        · rw [split, show metN K p k * cnt (farN K s n) r = m ↔ metN K p k * cnt (farN K s n) r = p ^ k * r by rw [← e1], mul_eq_mul c1 (cnt_le _ _) pk e3, i2]
          show _ ↔ (decide (metN K p k = p ^ k) && allM K (ppGo f r (p + 1))) = true
          rw [Bool.and_eq_true, decide_eq_true_eq]
      · rw [if_neg k0, List.nil_append]
        have := st k0
        subst this
        exact ⟨i1, i2⟩
    · rw [if_neg le]
      by_cases m1 : m > 1
      · rw [if_pos m1]
        have pr : Pr m := ⟨by omega, fun d d1 d2 z => by
          by_cases q : d < p
          · exact hd d d1 q z
          · obtain ⟨c, rfl⟩ := Nat.dvd_of_mod_eq_zero z
            have c2 : 2 ≤ c := by
              rcases c with _ | _ | c
              · omega
              · omega
              · omega
            have cp : c < p := by
              refine Nat.lt_of_not_le fun h => le ?_
              exact Nat.mul_le_mul (by omega) h
            exact hd c c2 cp (Nat.mul_mod_left d c)⟩
        have met := met_is (s := s) (n := n) (k := 1) hK pr (by rw [Nat.pow_one]; exact h2)
        rw [Nat.pow_one] at met
        refine ⟨?_, ?_⟩
        · rw [met]
          show _ = metN K m 1 * 1
          rw [Nat.mul_one]
        · rw [met]
          show _ ↔ (decide (metN K m 1 = m ^ 1) && true) = true
          rw [Bool.and_true, decide_eq_true_eq, Nat.pow_one]
      · rw [if_neg m1]
        have : m = 1 := by omega
        subst this
        rw [cnt_one]
        exact ⟨rfl, iff_of_true rfl rfl⟩
/-! ### rows -/
theorem nodup_num {l : List Nat} {m : Nat} (nd : l.Nodup) (hm : ∀ x ∈ l, x < m) : l.length = num (fun c => decide (c ∈ l)) m := by
  apply Nat.le_antisymm
  · exact sub_len _ _ nd fun x hx => List.mem_filter.mpr ⟨List.mem_range.mpr (hm x hx), decide_eq_true hx⟩
  · exact sub_len _ _ (List.nodup_range.filter _) fun x hx => of_decide_eq_true (List.mem_filter.mp hx).2
theorem mem_rowN {K : Kd} {s n x : Nat} : x ∈ rowN K s n ↔ ∃ i, i < 2 * s ∧ cellN K s n i = x := by
  unfold rowN rowL
  rw [row_mem]
  simp
theorem rowN_nodup (K : Kd) (s n : Nat) : (rowN K s n).Nodup := row_nodup _ _ List.nodup_nil
theorem rowN_lt {K : Kd} {s n : Nat} (hs : 1 ≤ s) : ∀ x ∈ rowN K s n, x < s := fun x hx => by
  obtain ⟨i, _, rfl⟩ := mem_rowN.mp hx
  exact Nat.mod_lt _ hs
open Classical in
theorem row_cnt {K : Kd} (hK : K ≠ .own) {s n : Nat} (hs : 1 ≤ s) : (rowN K s n).length = cnt (farN K s n) s := by
  rw [nodup_num (rowN_nodup K s n) (rowN_lt hs), ← cnt_affine (f := farN K s n) (n % s) hs (Nat.gcd_one_left s)]
  unfold cnt
  refine num_congr fun c hc => decide_eq_decide.mpr ?_
  rw [mem_rowN]
  have per := far_per2 hK (s := s) (n := n) hs
  constructor
  · rintro ⟨i, _, e⟩
    exact ⟨i, by show (1 * farN K s n i + n % s) % s = c; rw [Nat.one_mul, Nat.add_comm]; exact e⟩
  · rintro ⟨i, e⟩
    refine ⟨i % (2 * s), Nat.mod_lt _ (by omega), ?_⟩
    unfold cellN
    rw [Nat.add_mod, per.2 (i % (2 * s)) i (Nat.mod_mod _ _), ← Nat.add_mod, Nat.add_comm]
    have e : (1 * farN K s n i + n % s) % s = c := e
    rw [Nat.one_mul] at e
    exact e
/-- how many cells a row has, and whether all -/
theorem cells_is {K : Kd} (hK : K ≠ .own) {s : Nat} (n : Nat) (h1 : 1 ≤ s) (h2 : s ≤ 1000) : (rowN K s n).length = prodN K (ppN s) ∧ decide ((rowN K s n).length = s) = meetsB K s := by
  obtain ⟨e1, e2⟩ := pp_met hK s n 66 s 2 h1 h2 (Nat.le_refl _) (by decide) (by decide) fun d d1 d2 => by omega
  rw [row_cnt hK h1]
  exact ⟨e1, by rw [Bool.eq_iff_iff, decide_eq_true_eq]; exact e2⟩
end My
set_option Elab.async false
set_option linter.all false
set_option maxRecDepth 100000
set_option maxHeartbeats 4000000
namespace My
/-! ### rows, compared -/
theorem far_same {K : Kd} {s n m : Nat} (h : K = .own → stepN s n = stepN s m) (i : Nat) : farN K s n i = farN K s m i := by
  cases K with
  | own => show stepN s n * i = stepN s m * i; rw [h rfl]
  | _ => rfl
theorem row_same {K : Kd} {s n m : Nat} (hm : n % s = m % s) (h : K = .own → stepN s n = stepN s m) : rowN K s n = rowN K s m := by
  unfold rowN cellN
  rw [hm]
  congr 1
  exact List.map_congr_left fun i _ => by rw [far_same h i]
theorem row_grow : ∀ (l acc : List Nat), ∃ t, l.foldl rowStep acc = acc ++ t
  | [], acc => ⟨[], by rw [List.append_nil]; rfl⟩
  | x :: l, acc => by
    obtain ⟨t, e⟩ := row_grow l (rowStep acc x)
    rw [List.foldl_cons, e]
    unfold rowStep
    split
    · exact ⟨t, rfl⟩
    · exact ⟨x :: t, by rw [List.append_assoc]; rfl⟩
theorem far_zero (K : Kd) (s n : Nat) : farN K s n 0 = 0 := by
  cases K <;> rfl
theorem row_head (K : Kd) {s : Nat} (n : Nat) (hs : 1 ≤ s) : ∃ t, rowN K s n = (n % s) :: t := by
  unfold rowN rowL
  obtain ⟨m, hm⟩ : ∃ m, 2 * s = m + 1 := ⟨2 * s - 1, by omega⟩
  rw [hm, List.range_succ_eq_map, List.map_cons, List.foldl_cons]
  obtain ⟨t, e⟩ := row_grow (List.map (cellN K s n) (List.map Nat.succ (List.range m))) (rowStep [] (cellN K s n 0))
  refine ⟨t, ?_⟩
  rw [e]
  have e0 : cellN K s n 0 = n % s := by
    unfold cellN
    rw [far_zero, Nat.add_zero, Nat.mod_mod]
  rw [e0]
  rfl
theorem step_lt' {s n : Nat} (h : 2 ≤ s) : 1 ≤ stepN s n ∧ stepN s n < s := by
  unfold stepN
  rw [if_neg (by omega)]
  have := Nat.mod_lt (n / s) (show s - 1 > 0 by omega)
  omega
theorem row_two {s : Nat} (n : Nat) (hs : 2 ≤ s) : ∃ t, rowN .own s n = (n % s) :: ((n % s + stepN s n) % s) :: t := by
  unfold rowN rowL
  obtain ⟨m, hm⟩ : ∃ m, 2 * s = m + 1 + 1 := ⟨2 * s - 2, by omega⟩
  rw [hm, List.range_succ_eq_map, List.map_cons, List.range_succ_eq_map, List.map_cons, List.map_cons, List.foldl_cons, List.foldl_cons]
  have e0 : cellN .own s n 0 = n % s := by
    unfold cellN
    rw [far_zero, Nat.add_zero, Nat.mod_mod]
  have e1 : cellN .own s n (Nat.succ 0) = (n % s + stepN s n) % s := by
    show (n % s + stepN s n * 1) % s = _
    rw [Nat.mul_one]
  rw [e0, e1]
  obtain ⟨st1, st2⟩ := step_lt' (n := n) hs
  have hl := Nat.mod_lt n (show s > 0 by omega)
  have ne : (n % s + stepN s n) % s ≠ n % s := fun e => by
    by_cases c : n % s + stepN s n < s
    · rw [Nat.mod_eq_of_lt c] at e; omega
    · rw [Nat.mod_eq_sub_mod (by omega), Nat.mod_eq_of_lt (by omega)] at e; omega
  have e2 : rowStep (rowStep [] (n % s)) ((n % s + stepN s n) % s) = [n % s, (n % s + stepN s n) % s] := by
    show rowStep [n % s] _ = _
    unfold rowStep
    rw [if_neg (by rw [List.mem_singleton]; exact ne)]
    rfl
  rw [e2]
  obtain ⟨t, e⟩ := row_grow (List.map (cellN .own s n) (List.map Nat.succ (List.map Nat.succ (List.range m)))) [n % s, (n % s + stepN s n) % s]
  exact ⟨t, by rw [e]; rfl⟩
/-- a one to one map of the cells -/
theorem row_map {f : Nat → Nat} : ∀ (l acc : List Nat), (∀ x y, x ∈ acc ++ l → y ∈ acc ++ l → f x = f y → x = y) → (l.map f).foldl rowStep (acc.map f) = (l.foldl rowStep acc).map f
  | [], acc, _ => rfl
  | x :: l, acc, h => by
    rw [List.map_cons, List.foldl_cons, List.foldl_cons]
    have e : rowStep (acc.map f) (f x) = (rowStep acc x).map f := by
      unfold rowStep
      by_cases q : x ∈ acc
      · rw [if_pos q, if_pos (List.mem_map_of_mem q)]
      · rw [if_neg q, if_neg (fun z => by
          obtain ⟨y, hy, e⟩ := List.mem_map.mp z
          have := h y x (List.mem_append.mpr (.inl hy)) (List.mem_append.mpr (.inr List.mem_cons_self)) e
          exact q (this ▸ hy)), List.map_append]
        rfl
    rw [e]
    refine row_map l (rowStep acc x) fun a b ha hb => ?_
    have sub : ∀ z, z ∈ rowStep acc x ++ l → z ∈ acc ++ x :: l := fun z hz => by
      rcases List.mem_append.mp hz with q | q
      · unfold rowStep at q
        split at q
        · exact List.mem_append.mpr (.inl q)
        · rcases List.mem_append.mp q with q | q
          · exact List.mem_append.mpr (.inl q)
          · rw [List.mem_singleton.mp q]; exact List.mem_append.mpr (.inr List.mem_cons_self)
      · exact List.mem_append.mpr (.inr (List.mem_cons_of_mem _ q))
    exact h a b (sub a ha) (sub b hb)
theorem succ_split {s n : Nat} (hs : 1 ≤ s) (h : (n + 1) % s ≠ 0) : (n + 1) % s = n % s + 1 ∧ (n + 1) / s = n / s := by
  have l := Nat.mod_lt n (show s > 0 by omega)
  have d := Nat.div_add_mod n s
  have lt : n % s + 1 < s := Nat.lt_of_le_of_ne l fun e => h (by
    have e2 : n + 1 = s * (n / s + 1) := by rw [Nat.mul_add]; omega
    rw [e2]
    exact Nat.mul_mod_right _ _)
  have e : n + 1 = s * (n / s) + (n % s + 1) := by omega
  constructor
  · rw [e, Nat.mul_add_mod, Nat.mod_eq_of_lt lt]
  · have : (s * (n / s) + (n % s + 1)) / s = n / s := by
      rw [Nat.mul_add_div (by omega), Nat.div_eq_of_lt lt, Nat.add_zero]
    rw [← e] at this
    exact this
theorem step_of_div {s n m : Nat} (h : n / s = m / s) : stepN s n = stepN s m := by unfold stepN; rw [h]
/-- a home further on -/
theorem row_shift {K : Kd} {s n : Nat} (hs : 1 ≤ s) (h : (n + 1) % s ≠ 0) : rowN K s (n + 1) = (rowN K s n).map fun c => (c + 1) % s := by
  obtain ⟨e1, e2⟩ := succ_split hs h
  have inj : ∀ x y, x ∈ ([] : List Nat) ++ (List.range (2 * s)).map (cellN K s n) → y ∈ ([] : List Nat) ++ (List.range (2 * s)).map (cellN K s n) → (x + 1) % s = (y + 1) % s → x = y := fun x y hx hy e => by
    rw [List.nil_append] at hx hy
    obtain ⟨i, _, rfl⟩ := List.mem_map.mp hx
    obtain ⟨j, _, rfl⟩ := List.mem_map.mp hy
    have l1 : cellN K s n i < s := Nat.mod_lt _ hs
    have l2 : cellN K s n j < s := Nat.mod_lt _ hs
    have key : ∀ u, u < s → (u + 1) % s = if u + 1 = s then 0 else u + 1 := fun u hu => by
      by_cases c : u + 1 = s
      · rw [if_pos c, c, Nat.mod_self]
      · rw [if_neg c, Nat.mod_eq_of_lt (by omega)]
    rw [key _ l1, key _ l2] at e
    split at e <;> split at e <;> omega
  have m := row_map ((List.range (2 * s)).map (cellN K s n)) [] inj
  unfold rowN rowL
  rw [← m, List.map_map]
  congr 1
  refine List.map_congr_left fun i _ => ?_
  show cellN K s (n + 1) i = (cellN K s n i + 1) % s
  unfold cellN
  rw [far_same (m := n) (fun _ => step_of_div e2) i, e1, Nat.mod_add_mod]
  congr 1
  omega
/-! ### numbers with a row -/
def unN (K : Kd) (s : Nat) : Nat := match K with
  | .own => if s > 1 then s * (s - 1) else s
  | _ => s
def leastN (K : Kd) (s n : Nat) : Nat := match K with
  | .own => if s > 1 then n % s + (stepN s n - 1) * s else n % s
  | _ => n % s
theorem home_split {s h a : Nat} (hs : h < s) : (h + a * s) % s = h ∧ (h + a * s) / s = a := by
  constructor
  · rw [Nat.add_mul_mod_self_right, Nat.mod_eq_of_lt hs]
  · rw [Nat.add_mul_div_right _ _ (by omega), Nat.div_eq_of_lt hs, Nat.zero_add]
theorem step_least {s n : Nat} (hs : 2 ≤ s) : stepN s (n % s + (stepN s n - 1) * s) = stepN s n := by
  obtain ⟨a1, a2⟩ := step_lt' (n := n) hs
  have l := Nat.mod_lt n (show s > 0 by omega)
  generalize stepN s n = a at a1 a2 ⊢
  unfold stepN
  rw [if_neg (by omega), (home_split l).2, Nat.mod_eq_of_lt (by omega)]
  omega
theorem least_le (K : Kd) (s n : Nat) : leastN K s n ≤ n := by
  have base : n % s ≤ n := Nat.mod_le n s
  cases K with
  | own =>
    show (if s > 1 then n % s + (stepN s n - 1) * s else n % s) ≤ n
    by_cases h : s > 1
    · rw [if_pos h]
      unfold stepN
      rw [if_neg (by omega)]
      have d := Nat.div_add_mod n s
      have m := Nat.mod_le (n / s) (s - 1)
      have e : (1 + n / s % (s - 1) - 1) * s ≤ s * (n / s) := by
        rw [Nat.mul_comm s]
        exact Nat.mul_le_mul_right s (by omega)
      omega
    · rw [if_neg h]; exact base
  | _ => exact base
theorem least_row (K : Kd) {s : Nat} (n : Nat) (hs : 1 ≤ s) : rowN K s (leastN K s n) = rowN K s n := by
  have l := Nat.mod_lt n (show s > 0 by omega)
  cases K with
  | own =>
    show rowN .own s (if s > 1 then n % s + (stepN s n - 1) * s else n % s) = _
    by_cases h : s > 1
    · rw [if_pos h]
      refine row_same ?_ fun _ => step_least h
      exact (home_split l).1
    · rw [if_neg h]
      have : s = 1 := by omega
      subst this
      exact row_same (Nat.mod_mod _ _) fun _ => rfl
  | _ => exact row_same (Nat.mod_mod _ _) fun e => Kd.noConfusion e
theorem least_lt (K : Kd) {s : Nat} (n : Nat) (hs : 1 ≤ s) : leastN K s n < unN K s := by
  have l := Nat.mod_lt n (show s > 0 by omega)
  cases K with
  | own =>
    show (if s > 1 then n % s + (stepN s n - 1) * s else n % s) < if s > 1 then s * (s - 1) else s
    by_cases h : s > 1
    · rw [if_pos h, if_pos h]
      obtain ⟨a1, a2⟩ := step_lt' (n := n) h
      have e := Nat.mul_le_mul_right s (show stepN s n - 1 + 1 ≤ s - 1 by omega)
      rw [Nat.add_mul, Nat.one_mul, Nat.mul_comm (s - 1)] at e
      omega
    · rw [if_neg h, if_neg h]; exact l
  | _ => exact l
/-- the step that the first two cells tell -/
theorem two_step {s n : Nat} (hs : 2 ≤ s) : ((((n % s + stepN s n) % s : Nat) : Int) - ((n % s : Nat) : Int)).fmod ((s : Nat) : Int) = (stepN s n : Nat) := by
  obtain ⟨a1, a2⟩ := step_lt' (n := n) hs
  have l := Nat.mod_lt n (show s > 0 by omega)
  generalize stepN s n = a at a1 a2 ⊢
  generalize n % s = h at l ⊢
  rw [Int.fmod_eq_emod_of_nonneg _ (by omega)]
  by_cases c : h + a < s
  · rw [Nat.mod_eq_of_lt c]
    have : ((h + a : Nat) : Int) - (h : Nat) = (a : Nat) := by omega
    rw [this, ← Int.natCast_emod, Nat.mod_eq_of_lt a2]
  · rw [Nat.mod_eq_sub_mod (by omega), Nat.mod_eq_of_lt (by omega)]
    have : ((h + a - s : Nat) : Int) - (h : Nat) = (a : Nat) + (s : Nat) * (-1) := by omega
    rw [this, Int.add_mul_emod_self_left, ← Int.natCast_emod, Nat.mod_eq_of_lt a2]
/-! ### two rows -/
def tog : List Nat → List Nat → Nat
  | x :: l, y :: r => if x = y then tog l r + 1 else 0
  | _, _ => 0
theorem tog_self : ∀ l : List Nat, tog l l = l.length
  | [] => rfl
  | x :: l => by
    show (if x = x then tog l l + 1 else 0) = _
    rw [if_pos rfl, tog_self l, List.length_cons]
theorem tog_comm : ∀ l r : List Nat, tog l r = tog r l
  | [], [] => rfl
  | [], _ :: _ => rfl
  | _ :: _, [] => rfl
  | x :: l, y :: r => by
    show (if x = y then tog l r + 1 else 0) = if y = x then tog r l + 1 else 0
    rw [tog_comm l r]
    by_cases e : x = y
    · rw [if_pos e, if_pos e.symm]
    · rw [if_neg e, if_neg (Ne.symm e)]
/-- all or nothing, by own steps also one -/
theorem tog_due {K : Kd} {s n m : Nat} (hs : 1 ≤ s) (ne : rowN K s n ≠ rowN K s m) : tog (rowN K s n) (rowN K s m) = (if n % s = m % s then 1 else 0) ∧ (n % s = m % s → K = .own) := by
  obtain ⟨t, e1⟩ := row_head K n hs
  obtain ⟨u, e2⟩ := row_head K m hs
  by_cases h : n % s = m % s
  · have own : K = .own := Classical.byContradiction fun q => ne (row_same h fun z => absurd z q)
    subst own
    have s2 : 2 ≤ s := by
      by_cases c : s = 1
      · subst c
        exact absurd (row_same h fun _ => rfl) ne
      · omega
    obtain ⟨t, e1⟩ := row_two n s2
    obtain ⟨u, e2⟩ := row_two m s2
    have sn : stepN s n ≠ stepN s m := fun z => ne (row_same h fun _ => z)
    have ne2 : (n % s + stepN s n) % s ≠ (m % s + stepN s m) % s := fun z => by
      have c1 := two_step (n := n) s2
      have c2 := two_step (n := m) s2
      rw [z, h, c2] at c1
      exact sn (by omega)
    rw [if_pos h, e1, e2]
    refine ⟨?_, fun _ => rfl⟩
    show (if n % s = m % s then tog (_ :: t) (_ :: u) + 1 else 0) = 1
    rw [if_pos h]
    show (if (n % s + stepN s n) % s = (m % s + stepN s m) % s then _ else 0) + 1 = 1
    rw [if_neg ne2]
  · rw [if_neg h, e1, e2]
    refine ⟨?_, fun z => absurd z h⟩
    show (if n % s = m % s then _ else 0) = 0
    rw [if_neg h]
/-! ### periods of numbers -/
def perN (K : Kd) (s : Nat) : Nat := match K with
  | .own => s * (if s - 1 > 1 then s - 1 else 1)
  | _ => s
theorem per_pos (K : Kd) {s : Nat} (hs : 1 ≤ s) : 1 ≤ perN K s := by
  cases K with
  | own =>
    show 1 ≤ s * (if s - 1 > 1 then s - 1 else 1)
    exact Nat.mul_pos hs (by split <;> omega)
  | _ => exact hs
theorem row_per (K : Kd) {s : Nat} (n t : Nat) (hs : 1 ≤ s) : rowN K s (n + t * perN K s) = rowN K s n := by
  cases K with
  | own =>
    refine row_same ?_ fun _ => ?_
    · show (n + t * (s * (if s - 1 > 1 then s - 1 else 1))) % s = n % s
      rw [Nat.mul_left_comm, Nat.add_mul_mod_self_left]
    · show stepN s (n + t * (s * (if s - 1 > 1 then s - 1 else 1))) = _
      unfold stepN
      by_cases one : s = 1
      · rw [if_pos one, if_pos one]
      · rw [if_neg one, if_neg one, Nat.mul_left_comm, Nat.add_mul_div_left _ _ (by omega)]
        congr 1
        by_cases c : s - 1 > 1
        · rw [if_pos c, Nat.add_mul_mod_self_right]
        · rw [if_neg c, show s - 1 = 1 by omega, Nat.mod_one, Nat.mod_one]
  | _ => exact row_same (by show (n + t * s) % s = n % s; rw [Nat.add_mul_mod_self_right]) fun e => Kd.noConfusion e
theorem row_mod (K : Kd) {s : Nat} (n : Nat) (hs : 1 ≤ s) : rowN K s (n % perN K s) = rowN K s n := by
  have e := row_per K (n % perN K s) (n / perN K s) hs
  rw [Nat.mul_comm, Nat.mod_add_div] at e
  exact e.symm
/-! ### short rows -/
theorem gcd_row {s n : Nat} (hs : 1 ≤ s) (lt : (rowN .own s n).length < s) : 2 ≤ s ∧ Nat.gcd (stepN s n) s ≠ 1 := by
  have e : ¬ (rowN .own s n).length = s := by omega
  rw [own_full hs (by omega)] at e
  refine ⟨?_, e⟩
  by_cases c : s = 1
  · subst c; exact absurd (Nat.gcd_one_right _) e
  · omega
theorem short_due {s n : Nat} (h1 : 1 ≤ s) (h2 : s ≤ 4096) (lt : (rowN .own s n).length < s) : ∃ x, shortN s = some x ∧ x ≤ n := by
  obtain ⟨s2, g⟩ := gcd_row h1 lt
  obtain ⟨a1, a2⟩ := step_lt' (n := n) s2
  rcases short_is h1 h2 with ⟨_, all⟩ | ⟨q, q1, q2, e, _, all⟩
  · exact absurd (all _ a1 a2) g
  · refine ⟨_, e, ?_⟩
    have qa : q ≤ stepN s n := Nat.le_of_not_lt fun z => g (all _ a1 z)
    unfold stepN at qa
    rw [if_neg (by omega)] at qa
    have m := Nat.mod_le (n / s) (s - 1)
    have d := Nat.div_mul_le_self n s
    have := Nat.mul_le_mul_right s (show q - 1 ≤ n / s by omega)
    omega
/-! ### places -/
theorem at_first {l : List Nat} {c : Nat} (h : c ∈ l) : ∃ j : Nat, l[j]? = some c ∧ ∀ m, m < j → l[m]? ≠ some c := by
  induction l with
  | nil => cases h
  | cons x l ih =>
    by_cases e : x = c
    · exact ⟨0, by rw [e]; rfl, fun m hm => by omega⟩
    · obtain ⟨j, h1, h2⟩ := ih (by
        rcases List.mem_cons.mp h with z | z
        · exact absurd z.symm e
        · exact z)
      refine ⟨j + 1, h1, fun m hm => ?_⟩
      cases m with
      | zero => intro z; exact e (by simpa using z)
      | succ m => exact h2 m (by omega)
end My
set_option Elab.async false
set_option linter.all false
set_option maxRecDepth 100000
set_option maxHeartbeats 4000000
namespace My
open PySem PySem.Spec PyProof.Rows L2 DL
def top (i : Nat) : Stmt := PySem.Challenge.pw_hashhall_k05_whole_rows_all_ways_round.main.body.getD i (.Pass ⟨0, 0, 0, 0⟩)
structure Tx (K : PySem.W.Frag) (mg : Str → Option Value) : Prop where
  b_len : mg "len" = none
  b_isinstance : mg "isinstance" = none
  b_int : mg "int" = none
  b_bool : mg "bool" = none
  b_tuple : mg "tuple" = none
  b_list : mg "list" = none
  b_range : mg "range" = none
  b_str : mg "str" = none
  b_dict : mg "dict" = none
  b_abs : mg "abs" = none
  b_min : mg "min" = none
  b_max : mg "max" = none
  b_all : mg "all" = none
  b_zip : mg "zip" = none
  b_set : mg "set" = none
  g_LETTERS : GlobD K mg "LETTERS" false (.str "abcdefghijklmnopqrstuvwxyz")
  g_MOST_LETTERS : GlobD K mg "MOST_LETTERS" false (.int 8)
  g_MOST_NUMBER : GlobD K mg "MOST_NUMBER" false (.int 4294967295)
  g_MOST_SIZE : GlobD K mg "MOST_SIZE" false (.int 4096)
  g_MOST_STEP : GlobD K mg "MOST_STEP" false (.int 4095)
  g_MOST_GREAT : GlobD K mg "MOST_GREAT" false (.int 1000000000)
  e_BadSize : ExT K mg "BadSize"
  e_BadKey : ExT K mg "BadKey"
  e_BadKind : ExT K mg "BadKind"
  e_BadGreat : ExT K mg "BadGreat"
  e_BadCell : ExT K mg "BadCell"
  e_BadRow : ExT K mg "BadRow"
  ft__law_mixed : FT K mg "_law_mixed" (top 53) ["state"]
  ft__law_draw : FT K mg "_law_draw" (top 54) ["state", "room"]
  ft__law_pick : FT K mg "_law_pick" (top 55) ["state", "some"]
  ft__law_shuffled : FT K mg "_law_shuffled" (top 56) ["state", "some"]
  ft__law_wholes : FT K mg "_law_wholes" (top 57) ["state", "low", "high", "near"]
  ft__law_size : FT K mg "_law_size" (top 58) ["state", "most"]
  ft__law_number : FT K mg "_law_number" (top 59) ["state", "size"]
  ft__law_names : FT K mg "_law_names" (top 60) ["state", "many"]
  ft__law_lot : FT K mg "_law_lot" (top 61) ["state", "size", "many"]
  ft__law_told : FT K mg "_law_told" (top 62) ["state", "size", "lot"]
  ft__law_kind : FT K mg "_law_kind" (top 63) ["state", "size", "lot"]
  ft_is_whole : FT K mg "is_whole" (top 14) ["value", "low", "high"]
  ft_is_name : FT K mg "is_name" (top 15) ["value"]
  ft_is_key : FT K mg "is_key" (top 16) ["value"]
  ft_need_size : FT K mg "need_size" (top 17) ["size"]
  ft_need_key : FT K mg "need_key" (top 18) ["key"]
  ft_need_cell : FT K mg "need_cell" (top 19) ["size", "cell"]
  ft_is_cells : FT K mg "is_cells" (top 22) ["size", "value"]
  ft_is_plain_kind : FT K mg "is_plain_kind" (top 24) ["value"]
  ft_is_kind_of : FT K mg "is_kind_of" (top 25) ["size", "value"]
  ft_need_kind : FT K mg "need_kind" (top 26) ["size", "kind"]
  ft_step_of : FT K mg "step_of" (top 28) ["size", "number"]
  ft_cells_in_turn : FT K mg "cells_in_turn" (top 29) ["size", "kind", "number"]
  ft_row_at : FT K mg "row_at" (top 30) ["size", "kind", "key"]
  ft_has_row : FT K mg "has_row" (top 31) ["kind", "key"]
  ft_need_rows : FT K mg "need_rows" (top 32) ["kind", "lot"]
  ft_need_row_of : FT K mg "need_row_of" (top 33) ["size", "kind", "key"]
  ft_row_of : FT K mg "row_of" (top 34) ["size", "kind", "key"]
  ft_home_of : FT K mg "home_of" (top 35) ["size", "kind", "key"]
  ft_place_in : FT K mg "place_in" (top 36) ["size", "kind", "key", "cell"]
  ft_together : FT K mg "together" (top 37) ["size", "kind", "one", "other"]
  ft_need_great : FT K mg "need_great" (top 40) ["great", "kind"]
  ft_powered : FT K mg "powered" (top 41) ["base", "times"]
  ft_prime_powers : FT K mg "prime_powers" (top 42) ["number"]
  ft_divided : FT K mg "divided" (top 43) ["number", "prime", "most"]
  ft_squares : FT K mg "squares" (top 44) ["prime", "most"]
  ft_met_by_power : FT K mg "met_by_power" (top 45) ["prime", "most", "kind"]
  ft_cells_met : FT K mg "cells_met" (top 46) ["great", "kind"]
  ft_meets_all : FT K mg "meets_all" (top 47) ["great", "kind"]
  ft_first_short : FT K mg "first_short" (top 48) ["size"]
  ft_unlike_rows : FT K mg "unlike_rows" (top 49) ["size", "kind"]
  ft_number_with : FT K mg "number_with" (top 50) ["size", "kind", "row"]
  ft__law_turned : FT K mg "_law_turned" (top 64) ["state", "size", "kind", "key", "row"]
  ft__law_beside : FT K mg "_law_beside" (top 65) ["size", "kind", "number", "row"]
  ft_begun : FT K mg "_law_begun" (top 52) ["script"]
variable {P : Program} {w : World} {K : PySem.W.Frag} {mg : Str → Option Value} {base : Heap} {TT : List (Addr × Str)}
/-! ### the mixing, as plain numbers -/
abbrev vI (n : Int) : Option SV := some (.d false (.int n))
abbrev vV (i : Nat) : W1 := fun ρ P _ => getE ρ i P
abbrev vC (n : Int) : W1 := fun _ P _ => P (.d false (.int n))
abbrev mixCell : WS := fun ρ N E => bin2 modW (fun ρ P E => bin2 addW (bin2 addW (bin2 mulW (vV 4) (vC 48271)) (vV 5)) (vV 2) ρ (fun s => intW [s] P) E) (vV 1) (frzE ρ 4) (fun s => setW 4 s (frzE ρ 4) N.nx) E
theorem mix_cells (p t f : Int) (hp : 0 < p) (ht : 0 ≤ t) (N : En) (E : Str → Prop) : ∀ (cells : List Int) (b : Int) (c : Option SV), 0 ≤ b → (∀ z ∈ cells, 0 ≤ z) →
    (∀ b' c', (b' = b ∨ (0 ≤ b' ∧ b' < p)) → N.nx [some .st, vI p, vI t, vI f, vI b', c']) → forW (fun s ρ N => N (ρ.set 5 (some s))) mixCell (cells.map fun z => .d false (.int z)) [some .st, vI p, vI t, vI f, vI b, c] N E
  | [], b, c, _, _, h => h b c (.inl rfl)
  | z :: r, b, c, hb, hz, h => by
    have hz0 := hz z List.mem_cons_self
    have h0 : 0 ≤ b * 48271 + z + t := by have := Int.mul_nonneg hb (show (0 : Int) ≤ 48271 by decide); omega
    have e : (b * 48271 + z + t).fmod p = (b * 48271 + z + t) % p := Int.fmod_eq_emod_of_nonneg _ (Int.le_of_lt hp)
    have h1 := Int.emod_nonneg (b * 48271 + z + t) (show p ≠ 0 by omega)
    have h2 := Int.emod_lt_of_pos (b * 48271 + z + t) hp
    refine ⟨.inr ⟨by decide, by decide⟩, ?_⟩
    show p ≠ 0 ∧ forW _ mixCell _ [some .st, vI p, vI t, vI f, vI ((b * 48271 + z + t).fmod p), _] N E
    refine ⟨by omega, ?_⟩
    rw [e]
    exact mix_cells p t f hp ht N E r _ _ h1 (fun z' m => hz z' (List.mem_cons_of_mem _ m)) fun b' c' q => h b' c' (by rcases q with q | q <;> omega)
abbrev mixLap : WS := seqW (fun ρ N E => bin2 addW (bin2 mulW (vC 69621) (vV 2)) (bin2 fdivXW (vV 1) (vC 41)) ρ (fun s => setW 4 s ρ N.nx) E)
  (seqW (fun ρ N E => getE (frzE ρ 4) 0 fun s => stW s (∀ cells : List Int, cells.length ≤ 1000 → (∀ z ∈ cells, 0 ≤ z ∧ z < 2 ^ bigN) → forW (fun s ρ N => N (ρ.set 5 (some s))) mixCell (cells.map fun z => .d false (.int z)) (frzE ρ 4) N E))
    (fun ρ N E => bin2 addW (bin2 mulW (vV 3) (vC 2147483659)) (bin2 modW (fun ρ P E => bin2 powXW (vV 4) (vC 5) ρ (fun s => intW [s] P) E) (vV 1)) (frzE (frzE ρ 3) 4) (fun s => setW 3 s (frzE (frzE ρ 3) 4) N.nx) E))
theorem c2 (k : Nat) : ((2 ^ k : Nat) : Int) = (2 : Int) ^ k := by norm_cast
theorem lt_nat {b : Int} {k : Nat} (h0 : 0 ≤ b) (h : b < (2 : Int) ^ k) : b.natAbs < 2 ^ k := by
  have e := c2 k
  omega
theorem pow5_ok {b : Int} (h0 : 0 ≤ b) (h : b < 2 ^ 1000020) : CPowX b 5 := by
  refine ⟨by decide, ?_⟩
  have q := PyProof.Rows.intBits_le (lt_nat h0 h)
  omega
theorem mix_lap (p t f : Int) (hp : 0 < p) (hp2 : p < 2147483648) (ht : 0 ≤ t) (hc : t ≤ capT) (hf : 0 ≤ f) (N : En) (E : Str → Prop) (b0 c0 : Option SV)
    (h : ∀ f' b' c', 0 ≤ f' → f' < f * 2147483659 + p → N.nx [some .st, vI p, vI t, vI f', vI b', c']) : mixLap [some .st, vI p, vI t, vI f, b0, c0] N E := by
  have cap : (t : Int) ≤ 2 ^ 1000000 := by
    have e : ((capT : Nat) : Int) = 2 ^ 1000000 := c2 1000000
    rw [e] at hc
    exact hc
  have big : (2 : Int) ^ 1000020 = 2 ^ 1000000 * 2 ^ 20 := by rw [← Int.pow_add]
  have one : (1 : Int) ≤ 2 ^ 1000000 := Int.pow_pos (by decide)
  have e20 : (2 : Int) ^ 20 = 1048576 := by decide
  generalize (2 : Int) ^ 1000000 = M at cap big one
  refine ⟨.inl ⟨by decide, by decide⟩, ⟨by decide, by decide⟩, ?_⟩
  intro cells hl hz
  have hq0 : 0 ≤ p / 41 := Int.ediv_nonneg (Int.le_of_lt hp) (by decide)
  have hq1 : p / 41 ≤ p := Int.ediv_le_self _ (Int.le_of_lt hp)
  refine mix_cells p t f hp ht _ E cells (69621 * t + p / 41) c0 (by omega) (fun z m => (hz z m).1) fun b' c' hb => ?_
  have b0 : 0 ≤ b' := by rcases hb with q | q <;> omega
  have b1 : b' < 2 ^ 1000020 := by
    rw [big, e20]
    rcases hb with q | q <;> omega
  have h5 : 0 ≤ b' ^ 5 := Int.pow_nonneg b0
  have e : (b' ^ 5).fmod p = b' ^ 5 % p := Int.fmod_eq_emod_of_nonneg _ (Int.le_of_lt hp)
  have m1 := Int.emod_nonneg (b' ^ 5) (show p ≠ 0 by omega)
  have m2 := Int.emod_lt_of_pos (b' ^ 5) hp
  refine ⟨.inr ⟨by decide, by decide⟩, pow5_ok b0 b1, ?_⟩
  show p ≠ 0 ∧ N.nx [some .st, vI p, vI t, vI (f * 2147483659 + (b' ^ 5).fmod p), vI b', c']
  refine ⟨by omega, ?_⟩
  rw [e]
  exact h _ _ _ (by have := Int.mul_nonneg hf (show (0 : Int) ≤ 2147483659 by decide); omega) (by omega)
theorem lt_big {z : Int} (h : z < 2 ^ 200) : z < 2 ^ bigN := by
  have e : (2 : Nat) ^ 200 ≤ 2 ^ bigN := Nat.pow_le_pow_right (by decide) (by decide)
  have e2 : ((2 ^ 200 : Nat) : Int) ≤ ((2 ^ bigN : Nat) : Int) := Int.ofNat_le.mpr e
  rw [c2, c2] at e2
  exact Int.lt_of_lt_of_le h e2
theorem atI_in {xs : List D} {r : Int} (a : 0 ≤ r) (b : r < xs.length) : ∃ x, atI xs r = some x ∧ x ∈ xs := by
  have hl : r.toNat < xs.length := by omega
  refine ⟨xs[r.toNat], ?_, List.getElem_mem hl⟩
  unfold atI ixN
  rw [if_pos a, if_pos b]
  exact List.getElem?_eq_getElem hl
theorem small_room {n : Nat} (h : n ≤ 10000) : (n : Int) < 2 ^ 8000 := Int.lt_of_le_of_lt (show (n : Int) ≤ 10000 by omega) (by decide +kernel)
theorem two_pos (k : Nat) : (0 : Int) < 2 ^ k := Int.pow_pos (by decide)
theorem pow_ok {d : Int} (h0 : 0 ≤ d) (h1 : d ≤ 1000) : CPow 1 d := ⟨h0, by omega, by decide⟩
theorem fmod_two (b : Int) (k : Nat) : b.fmod (1 * 2 ^ k) = b % 2 ^ k := by rw [Int.one_mul]; exact Int.fmod_eq_emod_of_nonneg _ (Int.le_of_lt (two_pos k))
theorem one_two_ne (k : Nat) : (1 : Int) * 2 ^ k ≠ 0 := by have := two_pos k; omega
theorem bools_lv (n : Nat) : lv (.fr false (.list (List.replicate n (PyData.bool true)))) = some ((List.replicate n true).map PyData.bool) := by rw [List.map_replicate]; rfl
theorem all_rep (n : Nat) : ((List.replicate n true).all fun b => b) = true := by simp
theorem cast_mod (b k : Nat) : ((b : Nat) : Int) % 2 ^ k = ((b % 2 ^ k : Nat) : Int) := by rw [Int.natCast_emod, c2]
theorem pow_room {p : Int} (h0 : 0 ≤ p) (h1 : p < 12) : ∃ q : Int, (1 : Int) * 2 ^ p.toNat = q ∧ 1 ≤ q ∧ q ≤ 2048 := by
  have a := two_pos p.toNat
  have b : (2 : Nat) ^ p.toNat ≤ 2 ^ 11 := Nat.pow_le_pow_right (by decide) (by omega)
  have c := c2 p.toNat
  refine ⟨_, rfl, ?_, ?_⟩
  · rw [Int.one_mul]; omega
  · rw [Int.one_mul, ← c]; omega
theorem count_in {e q v x : Int} {y : D} (hq : e = q) (q1 : 1 ≤ q) (q2 : q ≤ 2048) (v0 : 0 ≤ v) (v1 : v < 200) (x0 : 0 ≤ x) (x1 : x < 4096)
    (hy : y ∈ [PyData.int 1, .int 2, .int 3, .int 5, .int 7, .int 4095, .int 4096, .int e, .int (e + 1), .int (if e - 1 > 1 then e - 1 else 1), .int (1 + v)] ++ [.int (1 + x)]) : ∃ m : Nat, y = .int (m + 1 : Nat) ∧ m ≤ 4095 := by
  subst hq
  have key : ∀ z : Int, 1 ≤ z → z ≤ 4096 → ∃ m : Nat, PyData.int z = .int (m + 1 : Nat) ∧ m ≤ 4095 := fun z h1 h2 => ⟨(z - 1).toNat, by congr 1; omega, by omega⟩
  simp only [List.mem_cons, List.mem_append, List.not_mem_nil, or_false] at hy
  rcases hy with (rfl | rfl | rfl | rfl | rfl | rfl | rfl | rfl | rfl | rfl | rfl) | rfl
  · exact key _ (by decide) (by decide)
  · exact key _ (by decide) (by decide)
  · exact key _ (by decide) (by decide)
  · exact key _ (by decide) (by decide)
  · exact key _ (by decide) (by decide)
  · exact key _ (by decide) (by decide)
  · exact key _ (by decide) (by decide)
  · exact key _ (by omega) (by omega)
  · exact key _ (by omega) (by omega)
  · exact key _ (by split <;> omega) (by split <;> omega)
  · exact key _ (by omega) (by omega)
  · exact key _ (by omega) (by omega)
theorem eqv_int (i : Int) : PyData.eqv (.int i) (.int i) = true := by simp [PyData.eqv]
theorem eqv_ii (i j : Int) : PyData.eqv (.int i) (.int j) = decide (i = j) := by
  by_cases e : i = j
  · subst e; rw [eqv_int]; simp
  · rw [decide_eq_false e]
    simp [PyData.eqv, e]
theorem bools_lv2 (k : Bool) (bs : List Bool) : lv (.fr k (.list (bs.map PyData.bool))) = some (bs.map PyData.bool) := rfl
theorem nat_fmod (a b : Nat) : ((a : Nat) : Int).fmod ((b : Nat) : Int) = ((a % b : Nat) : Int) := by
  rw [Int.fmod_eq_emod_of_nonneg _ (by omega), Int.natCast_emod]
theorem lay_ints : ∀ l : List Int, PyData.canLayAll0 (l.map PyData.int) = true
  | [] => rfl
  | a :: r => by rw [List.map_cons, PyData.canLayAll0, PyData.canLay0, lay_ints r]; rfl
theorem depth_ints : ∀ l : List Int, PyData.depthAll (l.map PyData.int) = 0
  | [] => by simp [PyData.depthAll]
  | a :: r => by rw [List.map_cons, PyData.depthAll, PyData.depth, depth_ints r]; rfl
theorem shaped_ints (l : List Int) : SeqAt.shaped (.list (l.map PyData.int)) = true := by
  have e : (PyData.list (l.map PyData.int)).canLay0 = true := by rw [PyData.canLay0]; exact lay_ints l
  unfold SeqAt.shaped
  rw [e, Bool.true_and, decide_eq_true_eq, PyData.depth, depth_ints]
  omega
theorem eqOk_ints (l r : List Int) : eqOk (.list (l.map PyData.int)) (.list (r.map PyData.int)) = true := by
  show (SeqAt.shaped (.list _) && SeqAt.shaped (.list _)) = true
  rw [shaped_ints, shaped_ints]
  rfl
theorem eqv_none (l : List Int) : PyData.eqv (.list (l.map PyData.int)) (.list []) = decide (l = []) := by cases l <;> rfl
theorem eqv_str (a b : Str) : PyData.eqv (.str a) (.str b) = decide (a = b) := by
  by_cases e : a = b
  · subst e; simp [PyData.eqv]
  · rw [decide_eq_false e]
    simp [PyData.eqv, e]
def isWhole (d : D) (lo hi : Int) : Bool := match d with | .int i => decide (lo ≤ i) && decide (i ≤ hi) | _ => false
def wholeOf : D → Int
  | .int i => i
  | _ => 0
theorem if_t {b : Bool} {p q : Prop} (h : b = true) (hp : p) : if b = true then p else q := by rw [if_pos h]; exact hp
theorem if_f {b : Bool} {p q : Prop} (h : b = false) (hq : q) : if b = true then p else q := by rw [if_neg (by rw [h]; decide)]; exact hq
theorem Q_int {Q : SV → Prop} {k : Bool} {i j : Int} (e : i = j) (h : Q (.d k (.int j))) : Q (.d k (.int i)) := by rw [e]; exact h
theorem at0 (x : D) (r : List D) : atI (x :: r) 0 = some x := by
  unfold atI ixN
  rw [if_pos (by decide), if_pos (by simp)]
  rfl
theorem whole_is {d : D} {lo hi : Int} (h : isWhole d lo hi = true) : ∃ i : Int, d = .int i ∧ lo ≤ i ∧ i ≤ hi := by
  unfold isWhole at h
  split at h
  · rename_i i
    rw [Bool.and_eq_true, decide_eq_true_eq, decide_eq_true_eq] at h
    exact ⟨i, rfl, h.1, h.2⟩
  · cases h
theorem whole_at {d : D} {lo : Nat} {hi : Int} (h : isWhole d (lo : Nat) hi = true) : ∃ n : Nat, d = .int (n : Nat) ∧ lo ≤ n ∧ (n : Int) ≤ hi := by
  obtain ⟨i, rfl, h1, h2⟩ := whole_is h
  exact ⟨i.toNat, by congr 1; omega, by omega, by omega⟩
theorem Q_bool {Q : SV → Prop} {k : Bool} {i j : Bool} (e : i = j) (h : Q (.d k (.bool j))) : Q (.d k (.bool i)) := by rw [e]; exact h
theorem whole_yes {i lo hi : Int} (h1 : lo ≤ i) (h2 : i ≤ hi) : isWhole (.int i) lo hi = true := by unfold isWhole; simp [h1, h2]
theorem cut1 (x : D) (r : List D) : DL.cutD (x :: r) (some 1) none = r := by
  unfold DL.cutD
  have e1 : HT.sIx (x :: r).length 0 (some 1) = 1 := by
    unfold HT.sIx
    simp
  have e2 : HT.sIx (x :: r).length (x :: r).length none = r.length + 1 := by
    unfold HT.sIx
    simp
  rw [e1, e2]
  simp
theorem len_is (n m : Nat) : PyData.eqv (.int (n : Nat)) (.int (m : Nat)) = decide (n = m) := by
  rw [eqv_ii]
  by_cases q : n = m
  · simp [q]
  · rw [decide_eq_false q, decide_eq_false (by omega)]
theorem whole_no {i lo hi : Int} (h : i < lo ∨ hi < i) : isWhole (.int i) lo hi = false := by
  cases w : isWhole (.int i) lo hi with
  | false => rfl
  | true =>
    obtain ⟨j, e, h1, h2⟩ := whole_is w
    cases e
    omega
theorem line_ok {n : Nat} (h : n ≤ 10000) : n ≤ sizeLine := by rw [sizeLine_eq]; omega
theorem small_log {a : Nat} (h : a ≤ 1000) : ((a : Nat) : Int).natAbs.log2 < 1920 := by
  rw [Int.natAbs_natCast]
  exact Nat.lt_of_le_of_lt (Nat.log2_le_self _) (by omega)
/-! ### kinds as data -/
def Kd.data : Kd → D
  | .by_ a => .tuple [.str "by", .int (a : Nat)]
  | .tri => .tuple [.str "triangle"]
  | .sq b c => .tuple [.str "square", .int (b : Nat), .int (c : Nat)]
  | .own => .tuple [.str "own"]
def Kd.ok : Kd → Prop
  | .by_ a => a ≤ 4095
  | .sq b c => b ≤ 4095 ∧ c ≤ 4095
  | _ => True
theorem kd_shaped (K : Kd) : eqOk K.data (.tuple []) = true := by
  cases K <;>
  · show (SeqAt.shaped _ && SeqAt.shaped _) = true
    simp only [Kd.data, SeqAt.shaped, PyData.canLay0, PyData.canLayAll0, PyData.depth, PyData.depthAll]
    decide +kernel
theorem kd_shaped2 (K : Kd) : eqOk K.data (.tuple [.str "own"]) = true := by
  cases K <;>
  · show (SeqAt.shaped _ && SeqAt.shaped _) = true
    simp only [Kd.data, SeqAt.shaped, PyData.canLay0, PyData.canLayAll0, PyData.depth, PyData.depthAll]
    decide +kernel
def NMS : List Str := ["a", "b", "ab", "ba", "aa", "z", "zz", "any"]
def keyD (x : Str) (n : Nat) : D := .tuple [.str x, .int (n : Nat)]
def pD (q : Nat × Nat) : D := .tuple [.int (q.1 : Nat), .int (q.2 : Nat)]
def shortD (s : Nat) : D := match shortN s with
  | none => .none
  | some x => .int (x : Nat)
theorem small_div {s : Nat} (h : s ≤ 100000) : ((s : Nat) : Int).natAbs.log2 < 9000 := by
  rw [Int.natAbs_natCast]
  by_cases z : s = 0
  · subst z; decide
  · have := (Nat.log2_lt z).mpr (show s < 2 ^ 17 by omega)
    omega
theorem div_step {a p m j : Nat} (hj : j < m) (hm : m ≤ 13) (z : a % p ^ (j + 1) = 0) : divGo a p m (14 - j) j = divGo a p m (14 - (j + 1)) (j + 1) := by
  rw [show 14 - j = (14 - (j + 1)) + 1 by omega]
  show (if j < m ∧ a % p ^ (j + 1) = 0 then _ else _) = _
  rw [if_pos ⟨hj, z⟩]
theorem div_stop {a p m j : Nat} (hj : j ≤ 13) (z : ¬ (j < m ∧ a % p ^ (j + 1) = 0)) : divGo a p m (14 - j) j = j := by
  rw [show 14 - j = (13 - j) + 1 by omega]
  show (if j < m ∧ a % p ^ (j + 1) = 0 then _ else _) = _
  rw [if_neg z]
theorem pow_ne {p : Nat} (h : 2 ≤ p) (i : Nat) : ((p ^ i : Nat) : Int) ≠ 0 := by
  have := Nat.pow_pos (n := i) (show 0 < p by omega)
  omega
def stN (K : Kd) (s n : Nat) : Nat := match K with
  | .by_ a => a
  | _ => stepN s n
/-! ### rows as dicts -/
theorem dcK_ind {g : WG} {ft : WB} {fk fv : W1} {ρ : DL.Env} {P : SV → Prop} (I : List SV → Bool → List (D × D) → Prop)
    (step : ∀ s r k acc, I (s :: r) k acc → ∀ J : Bool → List (D × D) → Prop, (∀ k' acc', I r k' acc' → J k' acc') →
      g s ρ fun ρ' => ft ρ' (fun b => if b = true then fk ρ' (fun y => keyKW y fun ks => fv ρ' (fun v => keepW v fun t => datW t fun k' z => J (k || k') (putD acc (kD ks) z)) (fun _ => False)) (fun _ => False) else J k acc) (fun _ => False))
    (stop : ∀ k acc, I [] k acc → P (.fr k (.dict acc))) : ∀ ss k acc, I ss k acc → dcKW g ft fk fv ss ρ k acc P
  | [], k, acc, h => stop k acc h
  | s :: r, k, acc, h => by
    have q := step s r k acc h (fun k' acc' => dcKW g ft fk fv r ρ k' acc' P) fun k' acc' h' => dcK_ind I step stop r k' acc' h'
    exact q
def cellD (x : Nat) : D × D := (.int (x : Nat), .bool true)
theorem put_row (xs : List Nat) (x : Nat) : putD (xs.map cellD) (.int (x : Nat)) (.bool true) = (rowStep xs x).map cellD := by
  have any : (xs.map cellD).any (fun p => PyData.eqv p.1 (.int (x : Nat))) = decide (x ∈ xs) := by
    rw [List.any_map]
    induction xs with
    | nil => rfl
    | cons y r ih =>
      rw [List.any_cons, ih]
      show (PyData.eqv (.int (y : Nat)) (.int (x : Nat)) || _) = _
      rw [len_is]
      by_cases e : x = y
      · subst e; simp
      · simp [e, Ne.symm e]
  have same : (xs.map cellD).map (fun p => if PyData.eqv p.1 (.int (x : Nat)) = true then (p.1, PyData.bool true) else p) = xs.map cellD := by
    rw [List.map_map]
    refine List.map_congr_left fun y _ => ?_
    show (if PyData.eqv (.int (y : Nat)) (.int (x : Nat)) = true then ((cellD y).1, PyData.bool true) else cellD y) = cellD y
    split <;> rfl
  unfold putD rowStep
  rw [any]
  by_cases h : x ∈ xs
  · rw [if_pos (decide_eq_true h), if_pos h, same]
  · rw [if_neg (by rw [decide_eq_false h]; decide), if_neg h, List.map_append]
    rfl
theorem row_len (K : Kd) (s n : Nat) : (rowN K s n).length ≤ 2 * s := by
  have h := row_le (l := (List.range (2 * s)).map (cellN K s n))
  rw [List.length_map, List.length_range] at h
  exact h
theorem row_ne (K : Kd) {s : Nat} (n : Nat) (h : 1 ≤ s) : rowN K s n ≠ [] := by
  intro z
  have h1 : cellN K s n 0 ∈ rowN K s n := (row_mem _ _ _).mpr (.inr (List.mem_map.mpr ⟨0, List.mem_range.mpr (by omega), rfl⟩))
  rw [z] at h1
  cases h1
/-! ### prime powers -/
theorem strip_stop {p g n : Nat} (h : n % p ≠ 0) : strip p g n = (n, 0) := by
  cases g with
  | zero => rfl
  | succ g => exact strip_no h
theorem strip_le (p : Nat) : ∀ (f n : Nat), (strip p f n).1 ≤ n ∧ (strip p f n).2 ≤ f
  | 0, n => ⟨Nat.le_refl _, Nat.le_refl _⟩
  | f + 1, n => by
    unfold strip
    by_cases z : n % p = 0
    · rw [if_pos z]
      obtain ⟨h1, h2⟩ := strip_le p f (n / p)
      exact ⟨Nat.le_trans h1 (Nat.div_le_self n p), Nat.succ_le_succ h2⟩
    · rw [if_neg z]
      exact ⟨Nat.le_refl _, Nat.zero_le _⟩
theorem pp_bounds : ∀ (f n p : Nat), n ≤ 4096 → 2 ≤ p → p ≤ 65 → ∀ q ∈ ppGo f n p, 2 ≤ q.1 ∧ q.1 ≤ 4096 ∧ q.2 ≤ 13
  | 0, n, p, _, _, _, q, hq => (nomatch hq)
  | f + 1, n, p, hn, hp, hp2, q, hq => by
    unfold ppGo at hq
    by_cases le : p * p ≤ n
    · rw [if_pos le] at hq
      have p64 : p ≤ 64 := Nat.le_of_not_lt fun h => by
        have := Nat.mul_le_mul (show 65 ≤ p from h) (show 65 ≤ p from h)
        omega
      obtain ⟨h1, h2⟩ := strip_le p 13 n
      rcases List.mem_append.mp hq with hq | hq
      · split at hq
        · rw [List.mem_singleton.mp hq]
          exact ⟨hp, by show p ≤ 4096; omega, h2⟩
        · cases hq
      · exact pp_bounds f _ (p + 1) (by omega) (by omega) (by omega) q hq
    · rw [if_neg le] at hq
      split at hq
      · rw [List.mem_singleton.mp hq]
        exact ⟨by show 2 ≤ n; omega, hn, by show 1 ≤ 13; decide⟩
      · cases hq
theorem div_le (a p m : Nat) : ∀ f i, i ≤ m → divGo a p m f i ≤ m
  | 0, i, h => h
  | f + 1, i, h => by
    unfold divGo
    split
    · rename_i q
      exact div_le a p m f (i + 1) q.1
    · exact h
theorem divN_le (a p m : Nat) : divN a p m ≤ m := div_le a p m 14 0 (Nat.zero_le _)
theorem p64 {p n : Nat} (h : p * p ≤ n) (hn : n ≤ 4096) : p ≤ 64 := Nat.le_of_not_lt fun q => by
  have := Nat.mul_le_mul (show 65 ≤ p from q) (show 65 ≤ p from q)
  omega
theorem m11 {n m : Nat} (h : n * 2 ^ m ≤ 4096) (hn : 2 ≤ n) : m ≤ 11 := Nat.le_of_not_lt fun q => by
  have h1 : 2 ^ 12 ≤ 2 ^ m := Nat.pow_le_pow_right (by decide) q
  have h2 := Nat.mul_le_mul hn h1
  omega
theorem halve {n m p : Nat} (h : n * 2 ^ m ≤ 4096) (hp : 2 ≤ p) : n / p * 2 ^ (m + 1) ≤ 4096 := by
  have h1 : n / p * 2 ≤ n := Nat.le_trans (Nat.mul_le_mul_left _ hp) (Nat.div_mul_le_self n p)
  have h2 := Nat.mul_le_mul_right (2 ^ m) h1
  rw [Nat.pow_succ, Nat.mul_comm (2 ^ m) 2, ← Nat.mul_assoc]
  omega
theorem go_yes {f n p : Nat} (h : p * p ≤ n) : ppGo (f + 1) n p = (if (strip p 13 n).2 > 0 then [(p, (strip p 13 n).2)] else []) ++ ppGo f (strip p 13 n).1 (p + 1) := by
  show (if p * p ≤ n then _ else _) = _
  rw [if_pos h]
theorem go_no {f n p : Nat} (h : ¬ p * p ≤ n) : ppGo (f + 1) n p = if n > 1 then [(n, 1)] else [] := by
  show (if p * p ≤ n then _ else _) = _
  rw [if_neg h]
theorem big_room {n : Nat} (h : n ≤ 100000) : (n : Int) < 2 ^ 8000 := Int.lt_of_le_of_lt (show (n : Int) ≤ 100000 by omega) (by decide +kernel)
theorem row_max (K : Kd) {s : Nat} (hs : 1 ≤ s) (n : Nat) : (rowN K s n).length ≤ s := by
  have nd := row_nodup ((List.range (2 * s)).map (cellN K s n)) [] List.nodup_nil
  have le := sub_len _ (List.range s) nd fun x hx => by
    rcases (row_mem _ _ _).mp hx with q | q
    · cases q
    · obtain ⟨i, _, rfl⟩ := List.mem_map.mp q
      exact List.mem_range.mpr (Nat.mod_lt _ hs)
  rw [List.length_range] at le
  exact le
theorem step_lt {s n : Nat} (h : 2 ≤ s) : 1 ≤ stepN s n ∧ stepN s n < s := by
  unfold stepN
  rw [if_neg (by omega)]
  have := Nat.mod_lt (n / s) (show s - 1 > 0 by omega)
  omega
theorem own_none {s : Nat} (hs : 1 ≤ s) (h : ∀ t, 1 ≤ t → t < s → Nat.gcd t s = 1) (n : Nat) : (rowN .own s n).length = s := by
  refine (own_full hs (by omega)).mpr ?_
  by_cases one : s = 1
  · subst one; exact Nat.gcd_one_right _
  · obtain ⟨a, b⟩ := step_lt (n := n) (show 2 ≤ s by omega)
    exact h _ a b
theorem own_due {s q : Nat} (h1 : 2 ≤ q) (h2 : q < s) (g : Nat.gcd q s = q) : (rowN .own s ((q - 1) * s)).length < s := by
  have le := row_max .own (show 1 ≤ s by omega) ((q - 1) * s)
  refine Nat.lt_of_le_of_ne le fun e => ?_
  have g1 := (own_full (show 1 ≤ s by omega) (by omega)).mp e
  have es : stepN s ((q - 1) * s) = q := by
    unfold stepN
    rw [if_neg (by omega), Nat.mul_div_cancel _ (show 0 < s by omega), Nat.mod_eq_of_lt (by omega)]
    omega
  rw [es, g] at g1
  omega
theorem list_two {kf : Bool} {u : List Nat} {r x : Nat} (hx : 1 ≤ x) : (u.map (fun x => PyData.int (x : Nat)) ++ [PyData.int (r : Nat), PyData.int ((x : Nat) - 1)]).map (SV.d kf) = (u ++ [r, x - 1]).map (fun x => SV.d kf (.int (x : Nat))) := by
  have e : ((x : Nat) : Int) - 1 = ((x - 1 : Nat) : Int) := by omega
  rw [e, List.map_append, List.map_append, List.map_map]
  rfl

theorem any_ints (l : List Nat) (c : Nat) : ((l.map fun x => PyData.int (x : Nat)).any fun z => PyData.eqv z (.int (c : Nat))) = decide (c ∈ l) := by
  rw [List.any_map]
  induction l with
  | nil => rfl
  | cons y r ih =>
    rw [List.any_cons, ih]
    show (PyData.eqv (.int (y : Nat)) (.int (c : Nat)) || _) = _
    rw [len_is]
    by_cases e : c = y
    · subst e; simp
    · simp [e, Ne.symm e]
theorem shaped_tup (l : List Nat) : SeqAt.shaped (.tuple (l.map fun x => PyData.int (x : Nat))) = true := by
  have e2 : (l.map fun x => PyData.int (x : Nat)) = (l.map fun x => ((x : Nat) : Int)).map PyData.int := by rw [List.map_map]; rfl
  rw [e2]
  have e : (PyData.tuple ((l.map fun x => ((x : Nat) : Int)).map PyData.int)).canLay0 = true := by rw [PyData.canLay0]; exact lay_ints _
  unfold SeqAt.shaped
  rw [e, Bool.true_and, decide_eq_true_eq, PyData.depth, depth_ints]
  omega
theorem shaped_int (i : Int) : SeqAt.shaped (.int i) = true := by
  unfold SeqAt.shaped
  rw [PyData.canLay0, Bool.true_and, decide_eq_true_eq, PyData.depth]
  omega
def cells (l : List Nat) : List D := l.map fun x => PyData.int (x : Nat)
theorem zip_cells {l r : List Nat} {k : Bool} : (((l.map fun x => PyData.int (x : Nat)).zip (r.map fun x => PyData.int (x : Nat))).map fun p => SV.d k (.tuple [p.1, p.2])) = (l.zip r).map fun p => SV.d k (.tuple [.int (p.1 : Nat), .int (p.2 : Nat)]) := by
  rw [List.zip_map, List.map_map]
  rfl

theorem eqvAll_cells : ∀ l r : List Nat, PyData.eqvAll (l.map fun x => PyData.int (x : Nat)) (r.map fun x => PyData.int (x : Nat)) = decide (l = r)
  | [], [] => rfl
  | [], _ :: _ => rfl
  | _ :: _, [] => rfl
  | x :: l, y :: r => by
    show (PyData.eqv (.int (x : Nat)) (.int (y : Nat)) && PyData.eqvAll (l.map fun x => PyData.int (x : Nat)) (r.map fun x => PyData.int (x : Nat))) = _
    rw [len_is, eqvAll_cells l r]
    by_cases e : x = y
    · subst e
      by_cases e2 : l = r
      · subst e2; simp
      · simp [e2]
    · simp [e]
theorem eqv_cells (l r : List Nat) : PyData.eqv (.tuple (l.map fun x => PyData.int (x : Nat))) (.tuple (r.map fun x => PyData.int (x : Nat))) = decide (l = r) := eqvAll_cells l r
theorem eqOk_cells (l r : List Nat) : eqOk (.tuple (l.map fun x => PyData.int (x : Nat))) (.tuple (r.map fun x => PyData.int (x : Nat))) = true := by
  show (SeqAt.shaped _ && SeqAt.shaped _) = true
  rw [shaped_tup, shaped_tup]
  rfl
theorem at_head (K : Kd) {s : Nat} (n : Nat) (hs : 1 ≤ s) : atI ((rowN K s n).map fun x => PyData.int (x : Nat)) 0 = some (.int (n % s : Nat)) := by
  obtain ⟨t, e⟩ := row_head K n hs
  rw [e]
  exact at0 _ _
theorem at_next {s : Nat} (n : Nat) (hs : 2 ≤ s) : atI ((rowN .own s n).map fun x => PyData.int (x : Nat)) 1 = some (.int ((n % s + stepN s n) % s : Nat)) := by
  obtain ⟨t, e⟩ := row_two n hs
  rw [e]
  unfold atI ixN
  rw [if_pos (by decide), if_pos (by simp only [List.map_cons, List.length_cons]; omega)]
  rfl

theorem lay_flat : ∀ l : List D, (∀ y ∈ l, y.canLay0 = true ∧ y.depth = 0) → PyData.canLayAll0 l = true ∧ PyData.depthAll l = 0
  | [], _ => ⟨rfl, by simp [PyData.depthAll]⟩
  | a :: r, h => by
    obtain ⟨h1, h2⟩ := lay_flat r fun y hy => h y (List.mem_cons_of_mem _ hy)
    obtain ⟨a1, a2⟩ := h a List.mem_cons_self
    exact ⟨by rw [PyData.canLayAll0, a1, h1]; rfl, by rw [PyData.depthAll, a2, h2]; rfl⟩
theorem shaped_flat {l : List D} (h : ∀ y ∈ l, y.canLay0 = true ∧ y.depth = 0) : SeqAt.shaped (.list l) = true := by
  obtain ⟨h1, h2⟩ := lay_flat l h
  unfold SeqAt.shaped
  rw [PyData.canLay0, h1, Bool.true_and, decide_eq_true_eq, PyData.depth, h2]
  omega
theorem flat_int (i : Int) : (PyData.int i).canLay0 = true ∧ (PyData.int i).depth = 0 := ⟨by rw [PyData.canLay0], by rw [PyData.depth]⟩
theorem perm_erase {α : Type} : ∀ (l : List α) (i : Nat) (h : i < l.length), ((l[i]'h) :: l.eraseIdx i).Perm l
  | x :: l, 0, _ => List.Perm.refl _
  | x :: l, i + 1, h => (List.Perm.swap x (l[i]'(Nat.lt_of_succ_lt_succ h)) (l.eraseIdx i)).trans (List.Perm.cons x (perm_erase l i (Nat.lt_of_succ_lt_succ h)))
theorem eqv_nil (l : List D) : PyData.eqv (.list l) (.list []) = decide (l = []) := by cases l <;> rfl
theorem ix_in {n : Nat} {r : Int} (a : 0 ≤ r) (b : r < (n : Nat)) : ixN n r = some r.toNat := by
  unfold ixN
  rw [if_pos a, if_pos b]

theorem cut2 (x y : D) (r : List D) : DL.cutD (x :: y :: r) none (some 2) = [x, y] := by
  unfold DL.cutD
  have e1 : HT.sIx (x :: y :: r).length 0 none = 0 := by
    unfold HT.sIx
    simp
  have e2 : HT.sIx (x :: y :: r).length (x :: y :: r).length (some 2) = 2 := by
    unfold HT.sIx
    simp
  rw [e1, e2]
  simp
def nm6 : List D := [.str "a", .str "b", .str "ab", .str "ba", .str "aa", .str "z"]
theorem nm6_is : ∀ y ∈ nm6, ∃ x : Str, y = .str x ∧ x ∈ NMS := by
  intro y hy
  simp only [nm6, List.mem_cons, List.not_mem_nil, or_false] at hy
  rcases hy with rfl | rfl | rfl | rfl | rfl | rfl <;> exact ⟨_, rfl, by decide⟩
theorem nm6_flat : ∀ y ∈ nm6, y.canLay0 = true ∧ y.depth = 0 := by
  intro y hy
  simp only [nm6, List.mem_cons, List.not_mem_nil, or_false] at hy
  rcases hy with rfl | rfl | rfl | rfl | rfl | rfl <;> exact ⟨by decide +kernel, by rw [PyData.depth]⟩

theorem put_some (y : Key) (z : D) (kds : List (D × D)) (h : (kds.all fun p => (key? p.1).isSome) = true) : ((putD kds (kD y) z).all fun p => (key? p.1).isSome) = true ∧ (putD kds (kD y) z).length ≤ kds.length + 1 := by
  unfold putD
  split
  · refine ⟨?_, by rw [List.length_map]; omega⟩
    rw [List.all_map]
    refine List.all_eq_true.mpr fun p hp => ?_
    have q := List.all_eq_true.mp h p hp
    show (key? (if PyData.eqv p.1 (kD y) = true then (p.1, z) else p).1).isSome = true
    split <;> exact q
  · refine ⟨?_, by rw [List.length_append]; exact Nat.le_refl _⟩
    rw [List.all_append, h, Bool.true_and, List.all_cons, List.all_nil, Bool.and_true]
    cases y <;> rfl

theorem eqv_bool (b : Bool) : PyData.eqv (.bool b) (.bool b) = true := by cases b <;> decide +kernel
theorem at_nat (xs : List D) (j : Nat) : atI xs ((j : Nat) : Int) = xs[j]? := by
  unfold atI ixN
  rw [if_pos (by omega)]
  by_cases h : ((j : Nat) : Int) < ((xs.length : Nat) : Int)
  · rw [if_pos h]
    rfl
  · rw [if_neg h]
    exact (List.getElem?_eq_none (by omega)).symm
theorem at_last (K : Kd) {s : Nat} (n : Nat) (hs : 1 ≤ s) : ∃ c : Nat, c ∈ rowN K s n ∧ atI ((rowN K s n).map fun x => PyData.int (x : Nat)) ((((rowN K s n).map fun x => PyData.int (x : Nat)).length : Nat) - 1) = some (.int (c : Nat)) := by
  have lp := List.length_pos_iff.mpr (row_ne K n hs)
  refine ⟨(rowN K s n)[(rowN K s n).length - 1]'(by omega), List.getElem_mem _, ?_⟩
  have e : ((((rowN K s n).map fun x => PyData.int (x : Nat)).length : Nat) : Int) - 1 = (((rowN K s n).length - 1 : Nat) : Int) := by rw [List.length_map]; omega
  rw [e, at_nat, List.getElem?_map, List.getElem?_eq_getElem (by omega)]
  rfl
theorem mem_cut {y : D} {xs : List D} {lo hi : Option Int} (h : y ∈ DL.cutD xs lo hi) : y ∈ xs := by
  unfold DL.cutD at h
  exact List.mem_of_mem_drop (List.mem_of_mem_take h)
theorem len_cut (xs : List D) (lo hi : Option Int) : (DL.cutD xs lo hi).length ≤ xs.length := by
  unfold DL.cutD
  exact Nat.le_trans (by rw [List.length_take]; exact Nat.min_le_right _ _) (by rw [List.length_drop]; exact Nat.sub_le _ _)
theorem per_same {K : Kd} {s n : Nat} (hs : 1 ≤ s) : ∀ z ∈ [((n : Nat) : Int) + ((perN K s : Nat) : Int), ((n : Nat) : Int) - ((perN K s : Nat) : Int), ((n : Nat) : Int).fmod ((perN K s : Nat) : Int), ((n : Nat) : Int) + 7 * ((perN K s : Nat) : Int)], 0 ≤ z → ∃ m : Nat, z = (m : Nat) ∧ rowN K s m = rowN K s n := by
  intro z hz z0
  simp only [List.mem_cons, List.not_mem_nil, or_false] at hz
  rcases hz with rfl | rfl | rfl | rfl
  · refine ⟨n + 1 * perN K s, by omega, row_per K n 1 hs⟩
  · refine ⟨n - perN K s, by omega, ?_⟩
    have e := row_per K (n - perN K s) 1 hs
    rw [Nat.one_mul, show n - perN K s + perN K s = n by omega] at e
    exact e.symm
  · refine ⟨n % perN K s, nat_fmod _ _, row_mod K n hs⟩
  · refine ⟨n + 7 * perN K s, by omega, row_per K n 7 hs⟩

theorem per_int {s : Nat} (hs : 1 ≤ s) : ((s : Nat) : Int) * (if ((s : Nat) : Int) - 1 > 1 then ((s : Nat) : Int) - 1 else 1) = ((perN .own s : Nat) : Int) := by
  show _ = ((s * (if s - 1 > 1 then s - 1 else 1) : Nat) : Int)
  by_cases c : s - 1 > 1
  · rw [if_pos c, if_pos (by omega), Int.natCast_mul, show ((s - 1 : Nat) : Int) = (s : Nat) - 1 by omega]
  · rw [if_neg c, if_neg (by omega), Int.natCast_mul]
    rfl
theorem next_mod (n s : Nat) : PyData.eqv (.int ((((n : Nat) : Int) + 1).fmod ((s : Nat) : Int))) (.int 0) = decide ((n + 1) % s = 0) := by
  rw [show ((n : Nat) : Int) + 1 = ((n + 1 : Nat) : Int) by omega, nat_fmod, show (0 : Int) = ((0 : Nat) : Int) from rfl, len_is]

theorem if_dec {P : Prop} [inst : Decidable P] {p q : Prop} (h1 : P → p) (h2 : ¬ P → q) : if decide P = true then p else q := by
  by_cases c : P
  · rw [if_pos (decide_eq_true c)]; exact h1 c
  · rw [if_neg (by rw [decide_eq_false c]; decide)]; exact h2 c
abbrev s__law_mixed : Stmt := top 53
theorem sc__law_mixed : FnScope ["state", "prime", "turn", "found", "blend", "cell"] ["state"] (defScope s__law_mixed) := ⟨rfl, rfl, rfl, by decide +kernel, rfl, by decide +kernel, by decide +kernel⟩
def S__law_mixed : FS := fun ss Q _ => match ss with
  | [.st] => ∀ r : Int, 0 ≤ r → r < 2 ^ bigN → Q (.d false (.int r))
  | _ => False
theorem f__law_mixed (T : Tx K mg) : DFn P w K mg base TT false 1 1 "_law_mixed" ["state"] S__law_mixed := by
  refine dfn (N := ["state", "prime", "turn", "found", "blend", "cell"]) T.ft__law_mixed sc__law_mixed (fun a cdv A out s H E C xc hg hT hr => by
    exact (dss_mix xc 0 2 3 sc__law_mixed.nd ⟨rfl, .inl rfl, by decide, by decide⟩ rfl rfl (by decide) (by decide) (by decide) ⟨rfl, .inl rfl, by decide, by decide⟩ rfl rfl
  (dss_cons (ds_for xc (di_list xc (de_lst (da_cons de_int (da_cons de_int (da_cons de_int (da_cons de_int da_nil)))))) (dg_name (vs := [0, 1, 2, 3, 4, 5]) 1 sc__law_mixed.nd)
  (dss_cons (ds_set 4 sc__law_mixed.nd (de_bin (dop_add xc) (de_bin dop_mul de_int (de_var 2)) (de_bin dop_fdivX (de_var 1) de_int)))
  (dss_cons (ds_frz 4 (ds_for xc (di_stCells xc 0) (dg_name (vs := [0, 1, 2, 3, 4, 5]) 5 sc__law_mixed.nd)
  (dss_one (ds_frz 4 (ds_set 4 sc__law_mixed.nd (de_bin dop_mod (de_t1 (dcall_int) T.b_int boot_int (de_bin (dop_add xc) (de_bin (dop_add xc) (de_bin dop_mul (de_var 4) de_int) (de_var 5)) (de_var 2)) xc) (de_var 1)))))))
  (dss_one (ds_frz 3 (ds_frz 4 (ds_set 3 sc__law_mixed.nd (de_bin (dop_add xc) (de_bin dop_mul (de_var 3) de_int) (de_bin dop_mod (de_t1 (dcall_int) T.b_int boot_int (de_bin dop_powX (de_var 4) de_int) xc) (de_var 1))))))))))
  (dss_one (ds_retV 3))) (by rfl) (by rfl) (by rfl) (by rfl) (by rfl))) ?_
  intro ss Q E hl h
  unfold S__law_mixed at h
  split at h
  · refine ⟨by decide, fun t h0 h1 => ?_⟩
    show mixLap [some .st, vI 2147483549, vI (t + 1), vI 0, none, none] _ _
    refine mix_lap _ _ _ (by decide) (by decide) (by omega) h1 (by decide) _ _ _ _ fun f1 b1 c1 k1 g1 => ?_
    show mixLap [some .st, vI 2147483543, vI (t + 1), vI f1, vI b1, c1] _ _
    refine mix_lap _ _ _ (by decide) (by decide) (by omega) h1 k1 _ _ _ _ fun f2 b2 c2 k2 g2 => ?_
    show mixLap [some .st, vI 2147483497, vI (t + 1), vI f2, vI b2, c2] _ _
    refine mix_lap _ _ _ (by decide) (by decide) (by omega) h1 k2 _ _ _ _ fun f3 b3 c3 k3 g3 => ?_
    show mixLap [some .st, vI 2147483489, vI (t + 1), vI f3, vI b3, c3] _ _
    refine mix_lap _ _ _ (by decide) (by decide) (by omega) h1 k3 _ _ _ _ fun f4 b4 c4 k4 g4 => ?_
    exact h f4 k4 (lt_big (by omega))
  · exact h.elim
abbrev s__law_draw : Stmt := top 54
theorem sc__law_draw : FnScope ["state", "room", "found"] ["state", "room"] (defScope s__law_draw) := ⟨rfl, rfl, rfl, by decide +kernel, rfl, by decide +kernel, by decide +kernel⟩
def S__law_draw : FS := fun ss Q _ => match ss with
  | [.st, .d _ (.int room)] => 0 < room ∧ room < 2 ^ 8000 ∧ ∀ r : Int, 0 ≤ r → r < room → Q (.d false (.int r))
  | _ => False
theorem f__law_draw (T : Tx K mg) (F__law_mixed : DFn P w K mg base TT false 1 1 "_law_mixed" ["state"] S__law_mixed) : DFn P w K mg base TT false 1 2 "_law_draw" ["state", "room"] S__law_draw := by
  refine dfn (N := ["state", "room", "found"]) T.ft__law_draw sc__law_draw (fun a cdv A out s H E C xc hg hT hr => by
    have F__law_mixed : DFn P w K mg base C.T false 1 1 "_law_mixed" ["state"] S__law_mixed := (by rw [hT]; exact F__law_mixed); have hr__law_mixed := hr.mono (show 1 ≤ 1 by decide); have gd__law_mixed : false = true → C.gd = true := fun h => (by cases h); exact (dss_cons (ds_if (dt_cmp (dop_eq xc) (de_stRest xc 0) de_int)
  (dss_one (ds_stRest xc 0 (de_stNext xc 0 (de_call F__law_mixed xc gd__law_mixed hr__law_mixed (da_cons (de_var 0) da_nil)) (hb := fun h q => pe_bm PySem.F.plainAttrs_list PySem.F.slot_list_pop PySem.F.type_list_pop h (pe_stE xc 0 ⟨rfl, .inl rfl, by decide, by decide⟩) q))))
  dss_nil)
  (dss_cons (ds_set 2 sc__law_draw.nd (de_bin dop_mod (de_t1 (dcall_int) T.b_int boot_int (de_stRest xc 0) xc) (de_var 1)))
  (dss_cons (ds_stRest xc 0 (de_bin dop_fdivX (de_stRest xc 0) (de_var 1)))
  (dss_one (ds_retV 2)))))) ?_
  intro ss Q E hl h
  unfold S__law_draw at h
  split at h
  · rename_i room
    obtain ⟨h1, h2, h3⟩ := h
    have tail : ∀ r : Int, 0 ≤ r → r < 2 ^ bigN → room ≠ 0 ∧ (∀ r2 : Int, 0 ≤ r2 → r2 < 2 ^ bigN → CDivW r2 room ∧ (0 ≤ r2 / room ∧ r2 / room < 2 ^ bigN) ∧ Q (.d false (.int (r.fmod room)))) := fun r a b => by
      refine ⟨by omega, fun r2 a2 b2 => ⟨wide_div h1 (lt_nat (Int.le_of_lt h1) h2) (by decide) (by decide), ⟨Int.ediv_nonneg a2 (Int.le_of_lt h1), Int.lt_of_le_of_lt (Int.ediv_le_self _ a2) b2⟩, ?_⟩⟩
      rw [Int.fmod_eq_emod_of_nonneg _ (Int.le_of_lt h1)]
      exact h3 _ (Int.emod_nonneg _ (by omega)) (Int.emod_lt_of_pos _ h1)
    intro r0 a0 b0
    refine ⟨rfl, ?_⟩
    show if PyData.eqv (.int r0) (.int 0) = true then _ else _
    split
    · exact ⟨fun r a b => ⟨⟨a, b⟩, tail⟩, fun r a b => ⟨⟨a, b⟩, tail⟩⟩
    · exact tail
  · exact h.elim
abbrev s__law_pick : Stmt := top 55
theorem sc__law_pick : FnScope ["state", "some"] ["state", "some"] (defScope s__law_pick) := ⟨rfl, rfl, rfl, by decide +kernel, rfl, by decide +kernel, by decide +kernel⟩
def S__law_pick : FS := fun ss Q _ => match ss with
  | [.st, .d k (.list xs)] => xs ≠ [] ∧ xs.length ≤ 1000 ∧ ∀ x ∈ xs, Q (.d k x)
  | _ => False
theorem f__law_pick (T : Tx K mg) (F__law_draw : DFn P w K mg base TT false 1 2 "_law_draw" ["state", "room"] S__law_draw) : DFn P w K mg base TT false 1 3 "_law_pick" ["state", "some"] S__law_pick := by
  refine dfn (N := ["state", "some"]) T.ft__law_pick sc__law_pick (fun a cdv A out s H E C xc hg hT hr => by
    have F__law_draw : DFn P w K mg base C.T false 1 2 "_law_draw" ["state", "room"] S__law_draw := (by rw [hT]; exact F__law_draw); have hr__law_draw := hr.mono (show 2 ≤ 2 by decide); have gd__law_draw : false = true → C.gd = true := fun h => (by cases h); exact (dss_one (ds_ret (de_ix xc (de_var 1) (de_call F__law_draw xc gd__law_draw hr__law_draw (da_cons (de_var 0) (da_cons (de_b1 (dcall_len xc) T.b_len (by decide +kernel) (de_var 1) xc) da_nil))))))) ?_
  intro ss Q E hl h
  unfold S__law_pick at h
  split at h
  · rename_i k xs
    obtain ⟨h1, h2, h3⟩ := h
    have hp : 0 < xs.length := List.length_pos_iff.mpr h1
    show S__law_draw [.st, .d false (.int xs.length)] (fun s => ixW (.d k (.list xs)) s _) E
    refine ⟨by omega, small_room (by omega), fun r a b => ?_⟩
    obtain ⟨x, e, m⟩ := atI_in a b
    exact ⟨x, e, h3 x m⟩
  · exact h.elim
abbrev s__law_shuffled : Stmt := top 56
theorem sc__law_shuffled : FnScope ["state", "some", "left", "found"] ["state", "some"] (defScope s__law_shuffled) := ⟨rfl, rfl, rfl, by decide +kernel, rfl, by decide +kernel, by decide +kernel⟩
def S__law_shuffled : FS := fun ss Q E => match ss with
  | [.st, .d _ (.list xs)] => xs.length ≤ 5000 ∧ (∀ y ∈ xs, y.canLay0 = true ∧ y.depth = 0) ∧ ∀ ys, ys.Perm xs → ∀ k, Q (.fr k (.list ys))
  | _ => False
theorem f__law_shuffled (T : Tx K mg) (F__law_draw : DFn P w K mg base TT false 1 2 "_law_draw" ["state", "room"] S__law_draw) : DFn P w K mg base TT false 33554432 3 "_law_shuffled" ["state", "some"] S__law_shuffled := by
  refine dfn (N := ["state", "some", "left", "found"]) T.ft__law_shuffled sc__law_shuffled (fun a cdv A out s H E C xc hg hT hr => by
    have F__law_draw : DFn P w K mg base C.T false 1 2 "_law_draw" ["state", "room"] S__law_draw := (by rw [hT]; exact F__law_draw); have hr__law_draw := hr.mono (show 2 ≤ 2 by decide); have gd__law_draw : false = true → C.gd = true := fun h => (by cases h); exact (dss_cons (ds_par (de_t1 (dcall_list xc) T.b_list boot_list (de_var 1) xc) (de_lst da_nil) 2 3 (hp := ps_par (by rfl) sc__law_shuffled.nd rfl rfl (by decide) rfl rfl (pa_cons (de_t1 (dcall_list xc) T.b_list boot_list (de_var 1) xc) (pa_cons (de_lst da_nil) pa_nil)) (by rfl)))
  (dss_cons (ds_while xc (dt_cmp (dop_ne xc) (de_var 2) (de_lst da_nil))
  (dss_one (ds_appPopAt 3 2 (de_call F__law_draw xc gd__law_draw hr__law_draw (da_cons (de_var 0) (da_cons (de_b1 (dcall_len xc) T.b_len (by decide +kernel) (de_var 2) xc) da_nil))) (hb := fun h h2 => pe_bm PySem.F.plainAttrs_list PySem.F.slot_list_append PySem.F.type_list_append h (pv 3) (pa_cons (pe_bm PySem.F.plainAttrs_list PySem.F.slot_list_pop PySem.F.type_list_pop h2 (pv 2) (pa_cons (de_call F__law_draw xc gd__law_draw hr__law_draw (da_cons (de_var 0) (da_cons (de_b1 (dcall_len xc) T.b_len (by decide +kernel) (de_var 2) xc) da_nil))) pa_nil)) pa_nil)))))
  (dss_one (ds_retV 3))))) ?_
  intro ss Q E hl h
  unfold S__law_shuffled at h
  split at h
  · rename_i k xs
    obtain ⟨hl2, flat, h⟩ := h
    refine ⟨xs.length + 1, by omega, ?_⟩
    refine while_ind (fun i ρ => ∃ (left found : List D) (kl kf : Bool), i = left.length + 1 ∧ (found ++ left).Perm xs ∧ ρ = [some .st, some (.d k (.list xs)), some (.own kl (.list left)), some (.own kf (.list found))]) ?_ ?_ _ _ ⟨xs, [], _, _, rfl, List.Perm.refl _, rfl⟩
    · rintro ρ ⟨left, found, kl, kf, hi, _⟩
      cases hi
    · rintro i ρ ⟨left, found, kl, kf, hi, hp, rfl⟩ J hJ
      have len := hp.length_eq
      rw [List.length_append] at len
      refine ⟨?_, ?_⟩
      · show (SeqAt.shaped (.list left) && SeqAt.shaped (.list [])) = true
        rw [shaped_flat fun y hy => flat y (hp.mem_iff.mp (List.mem_append.mpr (.inr hy)))]
        rfl
      by_cases z : left = []
      · refine if_f (b := !(PyData.eqv (.list left) (.list []))) (by rw [eqv_nil, decide_eq_true z]; rfl) ?_
        subst z
        rw [List.append_nil] at hp
        exact h _ hp _
      · refine if_t (b := !(PyData.eqv (.list left) (.list []))) (by rw [eqv_nil, decide_eq_false z]; rfl) ?_
        have lp := List.length_pos_iff.mpr z
        refine ⟨by omega, small_room (by omega), fun r r0 r1 => ?_⟩
        have hr : r.toNat < left.length := by omega
        refine ⟨r.toNat, left[r.toNat], ix_in r0 r1, List.getElem?_eq_getElem hr, by rw [sizeLine_eq]; omega, ?_⟩
        refine hJ _ ⟨left.eraseIdx r.toNat, found ++ [left[r.toNat]], _, _, by rw [List.length_eraseIdx_of_lt hr]; omega, ?_, rfl⟩
        rw [List.append_assoc]
        exact (List.Perm.append_left found (perm_erase left _ hr)).trans hp
  · exact h.elim
abbrev s__law_wholes : Stmt := top 57
theorem sc__law_wholes : FnScope ["state", "low", "high", "near", "some", "one", "off"] ["state", "low", "high", "near"] (defScope s__law_wholes) := ⟨rfl, rfl, rfl, by decide +kernel, rfl, by decide +kernel, by decide +kernel⟩
def S__law_wholes : FS := fun ss Q E => match ss with
  | [.st, .d _ (.int lo), .d _ (.int hi), .d _ (.list ns)] => lo = 0 ∧ hi = 4095 ∧ ns.length ≤ 5 ∧ (∀ d ∈ ns, ∃ z : Int, d = .int z) ∧ ∀ x : Nat, x ≤ 4095 → ∀ k, Q (.d k (.int (x : Nat)))
  | _ => False
theorem f__law_wholes (T : Tx K mg) (F__law_draw : DFn P w K mg base TT false 1 2 "_law_draw" ["state", "room"] S__law_draw) (F__law_pick : DFn P w K mg base TT false 1 3 "_law_pick" ["state", "some"] S__law_pick) : DFn P w K mg base TT false 3 4 "_law_wholes" ["state", "low", "high", "near"] S__law_wholes := by
  refine dfn (N := ["state", "low", "high", "near", "some", "one", "off"]) T.ft__law_wholes sc__law_wholes (fun a cdv A out s H E C xc hg hT hr => by
    have F__law_draw : DFn P w K mg base C.T false 1 2 "_law_draw" ["state", "room"] S__law_draw := (by rw [hT]; exact F__law_draw); have F__law_pick : DFn P w K mg base C.T false 1 3 "_law_pick" ["state", "some"] S__law_pick := (by rw [hT]; exact F__law_pick); have hr__law_draw := hr.mono (show 2 ≤ 3 by decide); have gd__law_draw : false = true → C.gd = true := fun h => (by cases h); have hr__law_pick := hr.mono (show 3 ≤ 3 by decide); have gd__law_pick : false = true → C.gd = true := fun h => (by cases h); exact (dss_cons (ds_set 4 sc__law_wholes.nd (de_lst (da_cons (de_var 1) (da_cons (de_var 2) da_nil))))
  (dss_cons (ds_frz 4 (ds_for xc (di_or (di_list xc (de_var 3)) (di_tup xc (de_var 3))) (dg_name (vs := [0, 1, 2, 3, 4, 5, 6]) 5 sc__law_wholes.nd)
  (dss_one (ds_frz 4 (ds_set 4 sc__law_wholes.nd (de_bin (dop_add xc) (de_var 4) (de_lc (own := [("off", 6)]) xc sc__law_wholes.nd (di_list xc (de_lst (da_cons (de_neg de_int) (da_cons de_int (da_cons de_int da_nil))))) (blkOk_by (own := [("off", 6)]) (N := ["state", "low", "high", "near", "some", "one", "off"]) (sc := defScope s__law_wholes) (by decide +kernel)) (fun _ _ _ _ _ => (dg_name (vs := ([("off", 6)] : List (Str × Nat)).map (·.2)) 6 sc__law_wholes.nd)) (fun _ _ _ _ _ => (dts_one (dt_chain dop_le dop_le (de_var 1) (de_bin (dop_add (xc.blk)) (de_var 5) (de_var 6)) (de_var 2)))) (fun _ _ _ _ _ => (de_bin (dop_add (xc.blk)) (de_var 5) (de_var 6))))))))))
  (dss_one (ds_frz 4 (ds_ret (de_if (dt_cmp dop_gt (de_call F__law_draw xc gd__law_draw hr__law_draw (da_cons (de_var 0) (da_cons de_int da_nil))) de_int) (de_call F__law_pick xc gd__law_pick hr__law_pick (da_cons (de_var 0) (da_cons (de_var 4) da_nil))) (de_bin (dop_add xc) (de_var 1) (de_call F__law_draw xc gd__law_draw hr__law_draw (da_cons (de_var 0) (da_cons (de_bin (dop_add xc) (de_bin dop_sub (de_var 2) (de_var 1)) de_int) da_nil))))))))))) ?_
  intro ss Q E hl h
  unfold S__law_wholes at h
  split at h
  · rename_i k lo k2 hi k3 ns
    obtain ⟨rfl, rfl, hl2, hn, h⟩ := h
    refine .inl ?_
    refine for_ind (fun ss ρ => ∃ (ks : Bool) (u : List Nat) (w : List D) (a4 a5 : Option SV), (a4 = some (.own ks (.list (u.map fun x => PyData.int (x : Nat)))) ∨ a4 = some (.d ks (.list (u.map fun x => PyData.int (x : Nat))))) ∧ ss = w.map (.d k3) ∧ (∀ d ∈ w, ∃ z : Int, d = .int z) ∧ u ≠ [] ∧ (∀ x ∈ u, x ≤ 4095) ∧ u.length + 3 * w.length ≤ 20 ∧ ρ = [some .st, some (.d k (.int 0)), some (.d k2 (.int 4095)), some (.d k3 (.list ns)), a4, a5, none]) ?_ ?_ _ _ ⟨_, [0, 4095], ns, _, _, .inr rfl, rfl, hn, by decide, by decide, by show 2 + _ ≤ _; omega, rfl⟩
    · rintro v t ρ ⟨ks, u, w, a4, a5, h4, hs, hw, un, hu, hl3, rfl⟩ J hJ
      cases w with
      | nil => cases hs
      | cons d w =>
        injection hs with hs1 hs2
        subst hs1; subst hs2
        obtain ⟨z, rfl⟩ := hw d List.mem_cons_self
        rw [List.length_cons] at hl3
        rcases h4 with rfl | rfl <;>
        · refine comp_ind (fun ss k acc => ∃ v : List Nat, acc = v.map (fun x => PyData.int (x : Nat)) ∧ (∀ x ∈ v, x ≤ 4095) ∧ v.length + ss.length ≤ 3 ∧ ∀ s ∈ ss, ∃ (kk : Bool) (o : Int), s = .d kk (.int o)) ?_ ?_ _ _ _ ⟨[], rfl, fun x hx => (nomatch hx), by decide, fun s hs => ?_⟩
          · rintro s r k4 acc ⟨v, rfl, hv, vl, hs⟩ J2 hJ2
            obtain ⟨kk, o, rfl⟩ := hs s List.mem_cons_self
            rw [List.length_cons] at vl
            have hs2 : ∀ s ∈ r, ∃ (kk : Bool) (o : Int), s = SV.d kk (.int o) := fun s h => hs s (List.mem_cons_of_mem _ h)
            by_cases c1 : 0 ≤ z + o
            · refine if_t (b := decide ((0 : Int) ≤ z + o)) (decide_eq_true c1) ?_
              by_cases c2 : z + o ≤ 4095
              · refine if_t (b := decide (z + o ≤ 4095)) (decide_eq_true c2) ?_
                refine hJ2 _ _ ⟨v ++ [(z + o).toNat], ?_, fun x hx => ?_, by rw [List.length_append]; show _ + 1 + _ ≤ _; omega, hs2⟩
                · rw [List.map_append]
                  show _ ++ [PyData.int (z + o)] = _ ++ [PyData.int ((z + o).toNat : Nat)]
                  rw [show (((z + o).toNat : Nat) : Int) = z + o by omega]
                · rcases List.mem_append.mp hx with q | q
                  · exact hv x q
                  · rw [List.mem_singleton.mp q]; omega
              · refine if_f (b := decide (z + o ≤ 4095)) (decide_eq_false c2) ?_
                exact hJ2 _ _ ⟨v, rfl, hv, by omega, hs2⟩
            · refine if_f (b := decide ((0 : Int) ≤ z + o)) (decide_eq_false c1) ?_
              exact hJ2 _ _ ⟨v, rfl, hv, by omega, hs2⟩
          · rintro k4 acc ⟨v, rfl, hv, vl, hs⟩
            have vl : v.length ≤ 3 := vl
            refine ⟨by rw [List.length_map, List.length_map, sizeLine_eq]; omega, ?_⟩
            refine hJ _ ⟨_, u ++ v, w, some (.own _ _), some (.d k3 (.int z)), .inl rfl, rfl, fun d hd => hw d (List.mem_cons_of_mem _ hd), List.append_ne_nil_of_left_ne_nil un _, fun x hx => ?_, by rw [List.length_append]; omega, by rw [List.map_append]; rfl⟩
            rcases List.mem_append.mp hx with q | q
            · exact hu x q
            · exact hv x q
          · obtain ⟨d, hd, rfl⟩ := List.mem_map.mp hs
            simp only [List.mem_cons, List.not_mem_nil, or_false] at hd
            rcases hd with rfl | rfl | rfl <;> exact ⟨_, _, rfl⟩
    · rintro ρ ⟨ks, u, w, a4, a5, h4, hs, hw, un, hu, hl3, rfl⟩
      rcases h4 with rfl | rfl <;>
      · refine ⟨by decide, by decide, fun r r0 r1 => ?_⟩
        by_cases c : r > 0
        · refine if_t (b := decide (r > 0)) (decide_eq_true c) ?_
          refine ⟨fun z => un (List.map_eq_nil_iff.mp z), by rw [List.length_map]; omega, fun d hd => ?_⟩
          obtain ⟨x, hx, rfl⟩ := List.mem_map.mp hd
          exact h x (hu x hx) _
        · refine if_f (b := decide (r > 0)) (decide_eq_false c) ?_
          refine ⟨trivial, by decide, by decide, fun r2 a2 b2 => ?_⟩
          have b2 : r2 < 4096 := b2
          exact Q_int (i := (0 : Int) + r2) (show (0 : Int) + r2 = (r2.toNat : Nat) by omega) (h r2.toNat (by omega) _)
  · exact h.elim
abbrev s__law_size : Stmt := top 58
theorem sc__law_size : FnScope ["state", "most", "some", "one"] ["state", "most"] (defScope s__law_size) := ⟨rfl, rfl, rfl, by decide +kernel, rfl, by decide +kernel, by decide +kernel⟩
def S__law_size : FS := fun ss Q E => match ss with
  | [.st, .d _ (.int i)] => ∃ m : Nat, i = (m : Nat) ∧ 1 ≤ m ∧ m ≤ 1000 ∧ ∀ s : Nat, 1 ≤ s → s ≤ m → ∀ k, Q (.d k (.int (s : Nat)))
  | _ => False
theorem f__law_size (T : Tx K mg) (F__law_draw : DFn P w K mg base TT false 1 2 "_law_draw" ["state", "room"] S__law_draw) (F__law_pick : DFn P w K mg base TT false 1 3 "_law_pick" ["state", "some"] S__law_pick) : DFn P w K mg base TT false 3 4 "_law_size" ["state", "most"] S__law_size := by
  refine dfn (N := ["state", "most", "some", "one"]) T.ft__law_size sc__law_size (fun a cdv A out s H E C xc hg hT hr => by
    have F__law_draw : DFn P w K mg base C.T false 1 2 "_law_draw" ["state", "room"] S__law_draw := (by rw [hT]; exact F__law_draw); have F__law_pick : DFn P w K mg base C.T false 1 3 "_law_pick" ["state", "some"] S__law_pick := (by rw [hT]; exact F__law_pick); have hr__law_draw := hr.mono (show 2 ≤ 3 by decide); have gd__law_draw : false = true → C.gd = true := fun h => (by cases h); have hr__law_pick := hr.mono (show 3 ≤ 3 by decide); have gd__law_pick : false = true → C.gd = true := fun h => (by cases h); exact (dss_cons (ds_set 2 sc__law_size.nd (de_lst (da_cons de_int (da_cons de_int (da_cons de_int (da_cons de_int (da_cons de_int (da_cons de_int (da_cons de_int (da_cons de_int (da_cons de_int (da_cons de_int (da_cons de_int (da_cons de_int (da_cons de_int (da_cons de_int (da_cons de_int (da_cons de_int (da_cons de_int (da_cons de_int (da_cons de_int (da_cons de_int (da_cons de_int (da_cons de_int (da_cons de_int (da_cons de_int (da_cons de_int (da_cons de_int (da_cons de_int (da_cons de_int da_nil))))))))))))))))))))))))))))))
  (dss_cons (ds_frz 2 (ds_setLc (own := [("one", 3)]) 2 xc sc__law_size.nd (di_or (di_list xc (de_bin (dop_add xc) (de_var 2) (de_lst (da_cons de_int (da_cons de_int (da_cons de_int (da_cons de_int (da_cons de_int (da_cons de_int da_nil))))))))) (di_tup xc (de_bin (dop_add xc) (de_var 2) (de_lst (da_cons de_int (da_cons de_int (da_cons de_int (da_cons de_int (da_cons de_int (da_cons de_int da_nil)))))))))) (blkOk_by (own := [("one", 3)]) (N := ["state", "most", "some", "one"]) (sc := defScope s__law_size) (by decide +kernel)) (fun _ _ _ _ _ => (dg_name (vs := ([("one", 3)] : List (Str × Nat)).map (·.2)) 3 sc__law_size.nd)) (fun _ _ _ _ _ => (dts_one (dt_cmp dop_le (de_var 3) (de_var 1)))) (fun _ _ _ _ _ => (de_var 3))))
  (dss_one (ds_frz 2 (ds_ret (de_if (dt_cmp dop_gt (de_call F__law_draw xc gd__law_draw hr__law_draw (da_cons (de_var 0) (da_cons de_int da_nil))) de_int) (de_call F__law_pick xc gd__law_pick hr__law_pick (da_cons (de_var 0) (da_cons (de_var 2) da_nil))) (de_bin (dop_add xc) de_int (de_call F__law_draw xc gd__law_draw hr__law_draw (da_cons (de_var 0) (da_cons (de_var 1) da_nil))))))))))) ?_
  intro ss Q E hl h
  unfold S__law_size at h
  split at h
  · rename_i k i
    obtain ⟨m, rfl, m1, m2, h⟩ := h
    refine .inl ?_
    refine ⟨line_ok (show 28 + 6 ≤ 10000 by decide), ?_⟩
    refine comp_ind (fun ss k acc => ∃ (kf : Bool) (w u : List Nat), ss = w.map (fun x => SV.d kf (.int (x : Nat))) ∧ acc = u.map (fun x => PyData.int (x : Nat)) ∧ (∀ x ∈ w, 1 ≤ x) ∧ (∀ x ∈ u, 1 ≤ x ∧ x ≤ m) ∧ (u ≠ [] ∨ 1 ∈ w) ∧ u.length + w.length ≤ 34) ?_ ?_ _ _ _ ⟨_, [1, 2, 3, 4, 5, 6, 7, 8, 9, 10, 11, 12, 16, 25, 27, 30, 32, 36, 49, 60, 64, 97, 100, 128, 251, 256, 360, 1024, 2048, 2187, 3600, 4093, 4095, 4096], [], rfl, rfl, by decide, fun x hx => (nomatch hx), .inr List.mem_cons_self, by decide⟩
    · rintro s t k4 acc ⟨kf, w, u, hs, rfl, hw, hu, h1, hl⟩ J hJ
      cases w with
      | nil => cases hs
      | cons x w =>
        injection hs with hs1 hs2
        subst hs1; subst hs2
        have x1 := hw x List.mem_cons_self
        rw [List.length_cons] at hl
        by_cases le : x ≤ m
        · refine if_t (b := decide (((x : Nat) : Int) ≤ (m : Nat))) (decide_eq_true (by omega)) ?_
          refine hJ _ _ ⟨kf, w, u ++ [x], rfl, by rw [List.map_append]; rfl, fun y hy => hw y (List.mem_cons_of_mem _ hy), fun y hy => ?_, .inl (List.append_ne_nil_of_right_ne_nil _ (List.cons_ne_nil _ _)), by rw [List.length_append]; show _ + 1 + _ ≤ _; omega⟩
          rcases List.mem_append.mp hy with q | q
          · exact hu y q
          · rw [List.mem_singleton.mp q]; exact ⟨x1, le⟩
        · refine if_f (b := decide (((x : Nat) : Int) ≤ (m : Nat))) (decide_eq_false (by omega)) ?_
          refine hJ _ _ ⟨kf, w, u, rfl, rfl, fun y hy => hw y (List.mem_cons_of_mem _ hy), hu, ?_, by omega⟩
          rcases h1 with h1 | h1
          · exact .inl h1
          · rcases List.mem_cons.mp h1 with e | h1
            · exact absurd e (by omega)
            · exact .inr h1
    · rintro k4 acc ⟨kf, w, u, hs, rfl, hw, hu, h1, hl⟩
      have hb : w = [] := by
        cases w with
        | nil => rfl
        | cons x w => cases hs
      subst hb
      have une : u ≠ [] := by
        rcases h1 with h1 | h1
        · exact h1
        · cases h1
      have hl : u.length ≤ 34 := hl
      refine ⟨by decide, by decide, fun r r0 r1 => ?_⟩
      by_cases z : r > 0
      · refine if_t (b := decide (r > 0)) (decide_eq_true z) ?_
        refine ⟨fun q => une (List.map_eq_nil_iff.mp q), by rw [List.length_map]; omega, fun y hy => ?_⟩
        obtain ⟨x, hx, rfl⟩ := List.mem_map.mp hy
        exact h x (hu x hx).1 (hu x hx).2 _
      · refine if_f (b := decide (r > 0)) (decide_eq_false z) ?_
        refine ⟨by omega, small_room (by omega), fun r2 a2 b2 => ?_⟩
        obtain ⟨x, hx, x1, x2⟩ : ∃ x : Nat, 1 + r2 = (x : Nat) ∧ 1 ≤ x ∧ x ≤ m := ⟨(1 + r2).toNat, by omega, by omega, by omega⟩
        exact Q_int hx (h x x1 x2 _)
  · exact h.elim
abbrev s__law_number : Stmt := top 59
theorem sc__law_number : FnScope ["state", "size", "way"] ["state", "size"] (defScope s__law_number) := ⟨rfl, rfl, rfl, by decide +kernel, rfl, by decide +kernel, by decide +kernel⟩
def S__law_number : FS := fun ss Q E => match ss with
  | [.st, .d _ (.int i)] => ∃ s : Nat, i = (s : Nat) ∧ 1 ≤ s ∧ s ≤ 4096 ∧ ∀ n : Nat, n ≤ 4294967295 → ∀ k, Q (.d k (.int (n : Nat)))
  | _ => False
theorem f__law_number (T : Tx K mg) (F__law_draw : DFn P w K mg base TT false 1 2 "_law_draw" ["state", "room"] S__law_draw) : DFn P w K mg base TT false 10 3 "_law_number" ["state", "size"] S__law_number := by
  refine dfn (N := ["state", "size", "way"]) T.ft__law_number sc__law_number (fun a cdv A out s H E C xc hg hT hr => by
    have F__law_draw : DFn P w K mg base C.T false 1 2 "_law_draw" ["state", "room"] S__law_draw := (by rw [hT]; exact F__law_draw); have hr__law_draw := hr.mono (show 2 ≤ 2 by decide); have gd__law_draw : false = true → C.gd = true := fun h => (by cases h); exact (dss_cons (ds_set 2 sc__law_number.nd (de_call F__law_draw xc gd__law_draw hr__law_draw (da_cons (de_var 0) (da_cons de_int da_nil))))
  (dss_cons (ds_if (dt_cmp dop_lt (de_var 2) de_int)
  (dss_one (ds_ret (de_call F__law_draw xc gd__law_draw hr__law_draw (da_cons (de_var 0) (da_cons (de_var 1) da_nil)))))
  dss_nil)
  (dss_cons (ds_if (dt_cmp (dop_eq xc) (de_var 2) de_int)
  (dss_one (ds_ret (de_b2 (dcall_min xc) T.b_min (by decide +kernel) (de_bin dop_sub (de_bin dop_pow de_int de_int) de_int) (de_bin (dop_add xc) (de_bin dop_mul (de_var 1) (de_call F__law_draw xc gd__law_draw hr__law_draw (da_cons (de_var 0) (da_cons (de_bin dop_mul de_int (de_var 1)) da_nil)))) (de_call F__law_draw xc gd__law_draw hr__law_draw (da_cons (de_var 0) (da_cons (de_var 1) da_nil)))) xc)))
  dss_nil)
  (dss_one (ds_ret (de_if (dt_cmp (dop_eq xc) (de_var 2) de_int) (de_bin dop_sub (de_bin dop_sub (de_bin dop_pow de_int de_int) de_int) (de_call F__law_draw xc gd__law_draw hr__law_draw (da_cons (de_var 0) (da_cons (de_bin dop_mul de_int (de_var 1)) da_nil)))) (de_call F__law_draw xc gd__law_draw hr__law_draw (da_cons (de_var 0) (da_cons (de_bin dop_pow de_int de_int) da_nil)))))))))) ?_
  intro ss Q E hl h
  unfold S__law_number at h
  split at h
  · rename_i k i
    obtain ⟨s, rfl, s1, s2, h⟩ := h
    have c32 : CPow 2 32 := ⟨by decide, by decide, by decide⟩
    have to : ∀ z : Int, 0 ≤ z → z ≤ 4294967295 → Q (.d false (.int z)) := fun z z0 z1 => Q_int (show z = (z.toNat : Nat) by omega) (h z.toNat (by omega) _)
    have p32 : (2 : Int) ^ (32 : Int).toNat = 4294967296 := by decide
    refine ⟨by decide, by decide, fun r r0 r1 => ?_⟩
    by_cases c0 : r < 2
    · refine if_t (b := decide (r < 2)) (decide_eq_true c0) ?_
      refine ⟨by omega, small_room (by omega), fun u u0 u1 => ?_⟩
      exact to u u0 (by omega)
    refine if_f (b := decide (r < 2)) (decide_eq_false c0) ?_
    refine ⟨rfl, ?_⟩
    by_cases c2 : r = 2
    · refine if_t (b := PyData.eqv (.int r) (.int 2)) (by rw [eqv_ii]; exact decide_eq_true c2) ?_
      refine ⟨c32, trivial, .inl ⟨by decide, by decide⟩, ?_⟩
      refine ⟨by omega, Int.lt_of_le_of_lt (show 2 * ((s : Nat) : Int) ≤ (2 * s : Nat) by omega) (small_room (by omega)), fun u u0 u1 => ?_⟩
      refine ⟨.inl ⟨by omega, by omega⟩, ?_⟩
      refine ⟨by omega, small_room (by omega), fun v v0 v1 => ?_⟩
      have n0 : 0 ≤ ((s : Nat) : Int) * u := Int.mul_nonneg (by omega) u0
      refine to (if ((s : Nat) : Int) * u + v < 2 ^ (32 : Int).toNat - 1 then ((s : Nat) : Int) * u + v else 2 ^ (32 : Int).toNat - 1) ?_ ?_
      · rw [p32]; split <;> omega
      · rw [p32]; split <;> omega
    refine if_f (b := PyData.eqv (.int r) (.int 2)) (by rw [eqv_ii]; exact decide_eq_false c2) ?_
    refine ⟨rfl, ?_⟩
    by_cases c3 : r = 3
    · refine if_t (b := PyData.eqv (.int r) (.int 3)) (by rw [eqv_ii]; exact decide_eq_true c3) ?_
      refine ⟨c32, trivial, .inl ⟨by decide, by decide⟩, ?_⟩
      refine ⟨by omega, Int.lt_of_le_of_lt (show 3 * ((s : Nat) : Int) ≤ (3 * s : Nat) by omega) (big_room (by omega)), fun u u0 u1 => ?_⟩
      refine ⟨trivial, ?_⟩
      refine to (2 ^ (32 : Int).toNat - 1 - u) ?_ ?_
      · rw [p32]; omega
      · rw [p32]; omega
    refine if_f (b := PyData.eqv (.int r) (.int 3)) (by rw [eqv_ii]; exact decide_eq_false c3) ?_
    refine ⟨c32, ?_⟩
    refine ⟨show (0 : Int) < 2 ^ (32 : Int).toNat by decide, show (2 : Int) ^ (32 : Int).toNat < 2 ^ 8000 by rw [p32]; decide +kernel, fun u u0 (u1 : u < 2 ^ (32 : Int).toNat) => ?_⟩
    rw [p32] at u1
    exact to u u0 (by omega)
  · exact h.elim
abbrev s__law_names : Stmt := top 60
theorem sc__law_names : FnScope ["state", "many", "some", "signs", "at"] ["state", "many"] (defScope s__law_names) := ⟨rfl, rfl, rfl, by decide +kernel, rfl, by decide +kernel, by decide +kernel⟩
def S__law_names : FS := fun ss Q E => match ss with
  | [.st, .d _ (.int i)] => i = 2 ∧ ∀ a b : Str, a ∈ NMS → b ∈ NMS → ∀ k, Q (.fr k (.list [.str a, .str b]))
  | _ => False
theorem f__law_names (T : Tx K mg) (F__law_shuffled : DFn P w K mg base TT false 33554432 3 "_law_shuffled" ["state", "some"] S__law_shuffled) : DFn P w K mg base TT false 67108864 4 "_law_names" ["state", "many"] S__law_names := by
  refine dfn (N := ["state", "many", "some", "signs", "at"]) T.ft__law_names sc__law_names (fun a cdv A out s H E C xc hg hT hr => by
    have F__law_shuffled : DFn P w K mg base C.T false 33554432 3 "_law_shuffled" ["state", "some"] S__law_shuffled := (by rw [hT]; exact F__law_shuffled); have hr__law_shuffled := hr.mono (show 3 ≤ 3 by decide); have gd__law_shuffled : false = true → C.gd = true := fun h => (by cases h); exact (dss_cons (ds_set 2 sc__law_names.nd (de_lst (da_cons de_str (da_cons de_str (da_cons de_str (da_cons de_str (da_cons de_str (da_cons de_str (da_cons de_str (da_cons de_str (da_cons de_str (da_cons de_str (da_cons de_str (da_cons de_str (da_cons de_str (da_cons de_str (da_cons de_str da_nil)))))))))))))))))
  (dss_cons (ds_mark (ds_set 3 sc__law_names.nd de_str))
  (dss_cons (ds_mark (ds_frz 2 (ds_set 2 sc__law_names.nd (de_bin (dop_add xc) (de_sl xc (de_var 2) do_none (do_some (de_b2 (dcall_max xc) T.b_max (by decide +kernel) (de_var 1) de_int xc))) (de_lc (own := [("at", 4)]) xc sc__law_names.nd (di_rng1 xc T.b_range (de_b2 (dcall_max xc) T.b_max (by decide +kernel) de_int (de_bin dop_sub (de_var 1) de_int) xc)) (blkOk_by (own := [("at", 4)]) (N := ["state", "many", "some", "signs", "at"]) (sc := defScope s__law_names) (by decide +kernel)) (fun _ _ _ _ _ => (dg_name (vs := ([("at", 4)] : List (Str × Nat)).map (·.2)) 4 sc__law_names.nd)) (fun _ _ _ _ _ => dts_nil) (fun _ _ _ _ _ => de_never))))))
  (dss_one (ds_mark (ds_frz 2 (ds_ret (de_sl xc (de_call F__law_shuffled xc gd__law_shuffled hr__law_shuffled (da_cons (de_var 0) (da_cons (de_var 2) da_nil))) do_none (do_some (de_var 1))))))))))) ?_
  intro ss Q E hl h
  unfold S__law_names at h
  split at h
  · rename_i k i
    obtain ⟨rfl, h⟩ := h
    refine Mark.at (ρ' := [some .st, some (.d k (.int 2)), some (.own false (.list [.str "a", .str "b", .str "ab", .str "ba", .str "aa", .str "z", .str "ann", .str "anna", .str "bob", .str "key", .str "put", .str "take", .str "mark", .str "zzzzzzzz", .str "abcdefgh"])), none, none]) rfl ?_
    refine Mark.at (ρ' := [some .st, some (.d k (.int 2)), some (.own false (.list [.str "a", .str "b", .str "ab", .str "ba", .str "aa", .str "z", .str "ann", .str "anna", .str "bob", .str "key", .str "put", .str "take", .str "mark", .str "zzzzzzzz", .str "abcdefgh"])), some (.d false (.str "abcdefghijklmnopqrstuvwxyz")), none]) rfl ?_
    refine ⟨trivial, by decide, by decide, ?_⟩
    refine ⟨line_ok (by decide), ?_⟩
    refine Mark.at (ρ' := [some .st, some (.d k (.int 2)), some (.own false (.list nm6)), some (.d false (.str "abcdefghijklmnopqrstuvwxyz")), none]) rfl ?_
    refine ⟨by decide, nm6_flat, fun ys hp kk => ?_⟩
    have len : ys.length = 6 := hp.length_eq
    have mem := fun y => (hp.mem_iff (a := y)).mp
    match ys, len, mem with
    | a :: b :: r, len, mem =>
      obtain ⟨x, rfl, hx⟩ := nm6_is a (mem a List.mem_cons_self)
      obtain ⟨y, rfl, hy⟩ := nm6_is b (mem b (List.mem_cons_of_mem _ List.mem_cons_self))
      have h := h x y hx hy kk
      rw [← cut2 (.str x) (.str y) r] at h
      exact h
  · exact h.elim
abbrev s__law_lot : Stmt := top 61
theorem sc__law_lot : FnScope ["state", "size", "many", "homes", "name", "found", "crowded", "number", "at"] ["state", "size", "many"] (defScope s__law_lot) := ⟨rfl, rfl, rfl, by decide +kernel, rfl, by decide +kernel, by decide +kernel⟩
def S__law_lot : FS := fun ss Q E => match ss with
  | [.st, .d _ (.int i), .d _ (.int j)] => j = 2 ∧ ∃ s : Nat, i = (s : Nat) ∧ 1 ≤ s ∧ s ≤ 4096 ∧ ∀ (a b : Str) (n m : Nat), a ∈ NMS → b ∈ NMS → n ≤ 4294967295 → m ≤ 4294967295 → ∀ k, Q (.d k (.tuple [keyD a n, keyD b m]))
  | _ => False
theorem f__law_lot (T : Tx K mg) (F__law_draw : DFn P w K mg base TT false 1 2 "_law_draw" ["state", "room"] S__law_draw) (F__law_number : DFn P w K mg base TT false 10 3 "_law_number" ["state", "size"] S__law_number) (F__law_names : DFn P w K mg base TT false 67108864 4 "_law_names" ["state", "many"] S__law_names) (F__law_pick : DFn P w K mg base TT false 1 3 "_law_pick" ["state", "some"] S__law_pick) : DFn P w K mg base TT false 4294967296 5 "_law_lot" ["state", "size", "many"] S__law_lot := by
  refine dfn (N := ["state", "size", "many", "homes", "name", "found", "crowded", "number", "at"]) T.ft__law_lot sc__law_lot (fun a cdv A out s H E C xc hg hT hr => by
    have F__law_draw : DFn P w K mg base C.T false 1 2 "_law_draw" ["state", "room"] S__law_draw := (by rw [hT]; exact F__law_draw); have F__law_number : DFn P w K mg base C.T false 10 3 "_law_number" ["state", "size"] S__law_number := (by rw [hT]; exact F__law_number); have F__law_names : DFn P w K mg base C.T false 67108864 4 "_law_names" ["state", "many"] S__law_names := (by rw [hT]; exact F__law_names); have F__law_pick : DFn P w K mg base C.T false 1 3 "_law_pick" ["state", "some"] S__law_pick := (by rw [hT]; exact F__law_pick); have hr__law_draw := hr.mono (show 2 ≤ 4 by decide); have gd__law_draw : false = true → C.gd = true := fun h => (by cases h); have hr__law_number := hr.mono (show 3 ≤ 4 by decide); have gd__law_number : false = true → C.gd = true := fun h => (by cases h); have hr__law_names := hr.mono (show 4 ≤ 4 by decide); have gd__law_names : false = true → C.gd = true := fun h => (by cases h); have hr__law_pick := hr.mono (show 3 ≤ 4 by decide); have gd__law_pick : false = true → C.gd = true := fun h => (by cases h); exact (dss_cons (ds_setLc (own := [("at", 8)]) 3 xc sc__law_lot.nd (di_rng1 xc T.b_range (de_bin (dop_add xc) de_int (de_call F__law_draw xc gd__law_draw hr__law_draw (da_cons (de_var 0) (da_cons de_int da_nil))))) (blkOk_by (own := [("at", 8)]) (N := ["state", "size", "many", "homes", "name", "found", "crowded", "number", "at"]) (sc := defScope s__law_lot) (by decide +kernel)) (fun _ _ _ _ _ => (dg_name (vs := ([("at", 8)] : List (Str × Nat)).map (·.2)) 8 sc__law_lot.nd)) (fun _ _ _ _ _ => dts_nil) (fun _ _ _ _ _ => (de_call F__law_number (xc.blk) gd__law_number hr__law_number (da_cons (de_var 0) (da_cons (de_var 1) da_nil)))))
  (dss_cons (ds_par (de_lst da_nil) (de_call F__law_draw xc gd__law_draw hr__law_draw (da_cons (de_var 0) (da_cons de_int da_nil))) 5 6 (hp := ps_par (by rfl) sc__law_lot.nd rfl rfl (by decide) rfl rfl (pa_cons (de_lst da_nil) (pa_cons (de_call F__law_draw xc gd__law_draw hr__law_draw (da_cons (de_var 0) (da_cons de_int da_nil))) pa_nil)) (by rfl)))
  (dss_cons (ds_frz 3 (ds_for xc (di_or (di_list xc (de_call F__law_names xc gd__law_names hr__law_names (da_cons (de_var 0) (da_cons (de_var 2) da_nil)))) (di_tup xc (de_call F__law_names xc gd__law_names hr__law_names (da_cons (de_var 0) (da_cons (de_var 2) da_nil))))) (dg_name (vs := [0, 1, 2, 3, 4, 5, 6, 7, 8]) 4 sc__law_lot.nd)
  (dss_cons (ds_frz 3 (ds_set 7 sc__law_lot.nd (de_if (dt_cmp (dop_eq xc) (de_var 6) de_int) (de_call F__law_pick xc gd__law_pick hr__law_pick (da_cons (de_var 0) (da_cons (de_var 3) da_nil))) (de_call F__law_number xc gd__law_number hr__law_number (da_cons (de_var 0) (da_cons (de_var 1) da_nil))))))
  (dss_one (ds_frz 7 (ds_append 5 (de_tup (da_cons (de_var 4) (da_cons (de_if (dt_cmp (dop_eq xc) (de_var 6) de_int) (de_call F__law_draw xc gd__law_draw hr__law_draw (da_cons (de_var 0) (da_cons (de_var 1) da_nil))) (de_var 7)) da_nil))) (hb := fun h => pe_bm PySem.F.plainAttrs_list PySem.F.slot_list_append PySem.F.type_list_append h (pv 5) (pa_cons (de_tup (da_cons (de_var 4) (da_cons (de_if (dt_cmp (dop_eq xc) (de_var 6) de_int) (de_call F__law_draw xc gd__law_draw hr__law_draw (da_cons (de_var 0) (da_cons (de_var 1) da_nil))) (de_var 7)) da_nil))) pa_nil))))))))
  (dss_one (ds_ret (de_t1 (dcall_tuple xc) T.b_tuple boot_tuple (de_var 5) xc))))))) ?_
  intro ss Q E hl h
  unfold S__law_lot at h
  split at h
  · rename_i k i k2 j
    obtain ⟨rfl, s, rfl, s1, s2, h⟩ := h
    refine ⟨by decide, by decide, fun r r0 r1 => ?_⟩
    refine ⟨by show -(2 ^ 62 : Int) ≤ 1 + r; omega, by show 1 + r ≤ 10000000; omega, ?_⟩
    refine comp_ind (fun ss k acc => ∃ u : List Nat, acc = u.map (fun x => PyData.int (x : Nat)) ∧ (∀ x ∈ u, x ≤ 4294967295) ∧ u.length + ss.length = (1 + r).toNat) ?_ ?_ _ _ _ ⟨[], rfl, fun x hx => (nomatch hx), by rw [List.length_map, List.length_range]; exact Nat.zero_add _⟩
    · rintro v t k4 acc ⟨u, rfl, hu, hl2⟩ J hJ
      refine ⟨s, rfl, s1, s2, fun n hn kk => ?_⟩
      refine hJ _ _ ⟨u ++ [n], by rw [List.map_append]; rfl, fun x hx => ?_, by rw [List.length_append]; rw [List.length_cons] at hl2; show _ + 1 + _ = _; omega⟩
      rcases List.mem_append.mp hx with q | q
      · exact hu x q
      · rw [List.mem_singleton.mp q]; exact hn
    rintro k4 acc ⟨u, rfl, hu, hl2⟩
    have hl2 : u.length = (1 + r).toNat := hl2
    have une : u ≠ [] := fun z => by rw [z] at hl2; have : (0 : Nat) = (1 + r).toNat := hl2; omega
    refine ⟨by decide, by decide, fun c c0 c1 => ?_⟩
    refine .inl ?_
    refine ⟨rfl, fun a b ha hb kn => ?_⟩
    refine for_ind (fun ss ρ => ∃ (done : List D) (w : List Str) (kf kh : Bool) (a3 a4 a7 : Option SV), (a3 = some (.own kh (.list (u.map fun x => PyData.int (x : Nat)))) ∨ a3 = some (.d kh (.list (u.map fun x => PyData.int (x : Nat))))) ∧ (a4 = none ∨ ∃ x : Str, a4 = some (.d kn (.str x))) ∧ ss = w.map (fun x => SV.d kn (.str x)) ∧ (∃ ns : List Nat, (∀ n ∈ ns, n ≤ 4294967295) ∧ ((ns.length = 0 ∧ w = [a, b] ∧ done = []) ∨ (∃ n, ns = [n] ∧ w = [b] ∧ done = [keyD a n]) ∨ ∃ n m, ns = [n, m] ∧ w = [] ∧ done = [keyD a n, keyD b m])) ∧ ρ = [some .st, some (.d k (.int (s : Nat))), some (.d k2 (.int 2)), a3, a4, some (.own kf (.list done)), some (.d false (.int c)), a7, none]) ?_ ?_ _ _ ⟨[], [a, b], _, _, _, none, none, .inr rfl, .inl rfl, rfl, ⟨[], fun n hn => (nomatch hn), .inl ⟨rfl, rfl, rfl⟩⟩, rfl⟩
    · rintro v t ρ ⟨done, w, kf, kh, a3, a4, a7, h3, h4, hs, hns, rfl⟩ J hJ
      cases w with
      | nil => cases hs
      | cons x w =>
        injection hs with hs1 hs2
        subst hs1; subst hs2
        have next : ∀ (num : Nat) (kx : Bool) (a3' a7' : Option SV), num ≤ 4294967295 → (a3' = some (.own kh (.list (u.map fun x => PyData.int (x : Nat)))) ∨ a3' = some (.d kh (.list (u.map fun x => PyData.int (x : Nat))))) → J [some .st, some (.d k (.int (s : Nat))), some (.d k2 (.int 2)), a3', some (.d kn (.str x)), some (.own (kf || kx) (.list (done ++ [keyD x num]))), some (.d false (.int c)), a7', none] := fun num kx a3' a7' hnum h3' => by
          obtain ⟨ns, nb, hn⟩ := hns
          refine hJ _ ⟨_, w, _, kh, _, _, _, h3', .inr ⟨x, rfl⟩, rfl, ⟨ns ++ [num], fun n hn => ?_, ?_⟩, rfl⟩
          · rcases List.mem_append.mp hn with q | q
            · exact nb n q
            · rw [List.mem_singleton.mp q]; exact hnum
          · rcases hn with ⟨e1, e2, e3⟩ | ⟨n, e1, e2, e3⟩ | ⟨n, m, _, e2, _⟩
            · cases e2
              have : ns = [] := List.length_eq_zero_iff.mp e1
              subst this; subst e3
              exact .inr (.inl ⟨num, rfl, rfl, rfl⟩)
            · cases e2
              subst e1; subst e3
              exact .inr (.inr ⟨n, num, rfl, rfl, rfl⟩)
            · cases e2
        have dl : done.length < sizeLine := by
          rw [sizeLine_eq]
          obtain ⟨ns, nb, hn⟩ := hns
          rcases hn with ⟨_, _, e3⟩ | ⟨n, _, _, e3⟩ | ⟨n, m, _, _, e3⟩ <;> rw [e3] <;> show _ < 16777216
          · show 0 < 16777216; decide
          · show 1 < 16777216; decide
          · show 2 < 16777216; decide
        rcases h3 with rfl | rfl <;>
        · refine ⟨rfl, ?_⟩
          by_cases z0 : c = 0
          · refine if_t (b := PyData.eqv (.int c) (.int 0)) (by rw [eqv_ii]; exact decide_eq_true z0) ?_
            refine ⟨fun z => une (List.map_eq_nil_iff.mp z), by rw [List.length_map]; omega, fun d hd => ?_⟩
            obtain ⟨num, hnm, rfl⟩ := List.mem_map.mp hd
            have hnum := hu num hnm
            refine ⟨rfl, ?_⟩
            by_cases z1 : c = 1
            · refine if_t (b := PyData.eqv (.int c) (.int 1)) (by rw [eqv_ii]; exact decide_eq_true z1) ?_
              refine ⟨by omega, small_room (by omega), fun q q0 q1 => ?_⟩
              obtain ⟨q, rfl⟩ : ∃ q' : Nat, q = (q' : Nat) := ⟨q.toNat, by omega⟩
              refine ⟨dl, ?_⟩
              exact next q _ _ _ (by omega) (.inr rfl)
            · refine if_f (b := PyData.eqv (.int c) (.int 1)) (by rw [eqv_ii]; exact decide_eq_false z1) ?_
              refine ⟨dl, ?_⟩
              exact next num _ _ _ hnum (.inr rfl)
          · refine if_f (b := PyData.eqv (.int c) (.int 0)) (by rw [eqv_ii]; exact decide_eq_false z0) ?_
            refine ⟨s, rfl, s1, s2, fun num hnum kk => ?_⟩
            refine ⟨rfl, ?_⟩
            by_cases z1 : c = 1
            · refine if_t (b := PyData.eqv (.int c) (.int 1)) (by rw [eqv_ii]; exact decide_eq_true z1) ?_
              refine ⟨by omega, small_room (by omega), fun q q0 q1 => ?_⟩
              obtain ⟨q, rfl⟩ : ∃ q' : Nat, q = (q' : Nat) := ⟨q.toNat, by omega⟩
              refine ⟨dl, ?_⟩
              exact next q _ _ _ (by omega) (.inr rfl)
            · refine if_f (b := PyData.eqv (.int c) (.int 1)) (by rw [eqv_ii]; exact decide_eq_false z1) ?_
              refine ⟨dl, ?_⟩
              exact next num _ _ _ hnum (.inr rfl)
    · rintro ρ ⟨done, w, kf, kh, a3, a4, a7, h3, h4, hs, ⟨ns, nb, hn⟩, rfl⟩
      rcases hn with ⟨e1, rfl, e3⟩ | ⟨n, e1, rfl, e3⟩ | ⟨n, m, rfl, rfl, rfl⟩
      · cases hs
      · cases hs
      · have h := h a b n m ha hb (nb n List.mem_cons_self) (nb m (List.mem_cons_of_mem _ List.mem_cons_self)) kf
        rcases h3 with rfl | rfl <;> rcases h4 with rfl | ⟨x, rfl⟩ <;> exact h
  · exact h.elim
abbrev s__law_told : Stmt := top 62
theorem sc__law_told : FnScope ["state", "size", "lot", "rows", "name", "number", "cells"] ["state", "size", "lot"] (defScope s__law_told) := ⟨rfl, rfl, rfl, by decide +kernel, rfl, by decide +kernel, by decide +kernel⟩
def S__law_told : FS := fun ss Q E => match ss with
  | [.st, .d _ (.int i), .d _ lot] => ∃ (s : Nat) (a b : Str) (n m : Nat), i = (s : Nat) ∧ 1 ≤ s ∧ s ≤ 12 ∧ lot = .tuple [keyD a n, keyD b m] ∧ ∀ k kds, Q (.d k (.tuple [.str "told", .dict kds]))
  | _ => False
theorem f__law_told (T : Tx K mg) (F__law_shuffled : DFn P w K mg base TT false 33554432 3 "_law_shuffled" ["state", "some"] S__law_shuffled) (F__law_pick : DFn P w K mg base TT false 1 3 "_law_pick" ["state", "some"] S__law_pick) (F__law_draw : DFn P w K mg base TT false 1 2 "_law_draw" ["state", "room"] S__law_draw) : DFn P w K mg base TT false 4503599627370496 4 "_law_told" ["state", "size", "lot"] S__law_told := by
  refine dfn (N := ["state", "size", "lot", "rows", "name", "number", "cells"]) T.ft__law_told sc__law_told (fun a cdv A out s H E C xc hg hT hr => by
    have F__law_shuffled : DFn P w K mg base C.T false 33554432 3 "_law_shuffled" ["state", "some"] S__law_shuffled := (by rw [hT]; exact F__law_shuffled); have F__law_pick : DFn P w K mg base C.T false 1 3 "_law_pick" ["state", "some"] S__law_pick := (by rw [hT]; exact F__law_pick); have F__law_draw : DFn P w K mg base C.T false 1 2 "_law_draw" ["state", "room"] S__law_draw := (by rw [hT]; exact F__law_draw); have hr__law_shuffled := hr.mono (show 3 ≤ 3 by decide); have gd__law_shuffled : false = true → C.gd = true := fun h => (by cases h); have hr__law_pick := hr.mono (show 3 ≤ 3 by decide); have gd__law_pick : false = true → C.gd = true := fun h => (by cases h); have hr__law_draw := hr.mono (show 2 ≤ 3 by decide); have gd__law_draw : false = true → C.gd = true := fun h => (by cases h); exact (dss_cons (ds_set 3 sc__law_told.nd de_dnew)
  (dss_cons (ds_for xc (di_or (di_list xc (de_var 2)) (di_tup xc (de_var 2))) (dg_tup (vs := [0, 1, 2, 3, 4, 5, 6]) xc (dgs_cons (dg_name (vs := [0, 1, 2, 3, 4, 5, 6]) 4 sc__law_told.nd) (dgs_cons (dg_name (vs := [0, 1, 2, 3, 4, 5, 6]) 5 sc__law_told.nd) (dgs_nil (vs := [0, 1, 2, 3, 4, 5, 6])))) rfl (fun h => pg_tup (by rfl) h))
  (dss_cons (ds_set 6 sc__law_told.nd (de_call F__law_shuffled xc gd__law_shuffled hr__law_shuffled (da_cons (de_var 0) (da_cons (de_lr1 xc T.b_range T.b_list (de_var 1)) da_nil))))
  (dss_one (ds_frz 6 (ds_put 3 xc ⟨rfl, .inl rfl, by decide, by decide⟩ (de_var 4) (de_t1 (dcall_tuple xc) T.b_tuple boot_tuple (de_sl xc (de_var 6) do_none (do_some (de_call F__law_pick xc gd__law_pick hr__law_pick (da_cons (de_var 0) (da_cons (de_lst (da_cons (de_var 1) (da_cons (de_var 1) (da_cons (de_bin (dop_add xc) de_int (de_call F__law_draw xc gd__law_draw hr__law_draw (da_cons (de_var 0) (da_cons (de_var 1) da_nil)))) da_nil)))) da_nil))))) xc))))))
  (dss_one (ds_frz 3 (ds_ret (de_tup (da_cons de_str (da_cons (de_var 3) da_nil))))))))) ?_
  intro ss Q E hl h
  unfold S__law_told at h
  split at h
  · rename_i k i k2 lot
    obtain ⟨s, a, b, n, m, rfl, s1, s2, rfl, h⟩ := h
    refine .inr ?_
    refine for_ind (fun ss ρ => ∃ (kd : Bool) (kds : List (D × D)) (a4 a5 a6 : Option SV), (∃ w : List (Str × Nat), ss = w.map fun p => SV.d k2 (keyD p.1 p.2)) ∧ (kds.all fun p => (key? p.1).isSome) = true ∧ kds.length + ss.length ≤ 2 ∧ ρ = [some .st, some (.d k (.int (s : Nat))), some (.d k2 (.tuple [keyD a n, keyD b m])), some (.own kd (.dict kds)), a4, a5, a6]) ?_ ?_ _ _ ⟨_, [], none, none, none, ⟨[(a, n), (b, m)], rfl⟩, rfl, Nat.le_refl 2, rfl⟩
    · rintro v t ρ ⟨kd, kds, a4, a5, a6, ⟨w, hs⟩, hk, hl2, rfl⟩ J hJ
      cases w with
      | nil => cases hs
      | cons p w =>
        obtain ⟨x, num⟩ := p
        injection hs with hs1 hs2
        subst hs1; subst hs2
        refine ⟨rfl, ?_⟩
        refine ⟨by omega, by omega, ?_⟩
        refine ⟨by rw [List.length_map, List.length_range]; omega, fun y hy => ?_, fun ys hp kk => ?_⟩
        · obtain ⟨j, _, rfl⟩ := List.mem_map.mp hy
          exact flat_int _
        refine ⟨by omega, small_room (by omega), fun r r0 r1 => ?_⟩
        refine ⟨List.cons_ne_nil _ _, by show 3 ≤ 1000; decide, fun d hd => ?_⟩
        simp only [List.mem_cons, List.not_mem_nil, or_false] at hd
        have hl3 : kds.length + (w.length + 1) ≤ 2 := by simpa using hl2
        rcases hd with rfl | rfl | rfl <;>
        · refine ⟨.inr x, rfl, hk, by rw [sizeLine_eq]; omega, ?_⟩
          have ps := fun z => put_some (.inr x) z kds hk
          exact hJ _ ⟨_, _, _, _, _, ⟨w, rfl⟩, (ps _).1, by rw [List.length_map]; exact Nat.le_trans (Nat.add_le_add_right (ps _).2 _) (by omega), rfl⟩
    · rintro ρ ⟨kd, kds, a4, a5, a6, _, hk, hl2, rfl⟩
      exact h _ _
  · exact h.elim
abbrev s__law_kind : Stmt := top 63
theorem sc__law_kind : FnScope ["state", "size", "lot", "near", "way"] ["state", "size", "lot"] (defScope s__law_kind) := ⟨rfl, rfl, rfl, by decide +kernel, rfl, by decide +kernel, by decide +kernel⟩
def S__law_kind : FS := fun ss Q E => match ss with
  | [.st, .d _ (.int i), .d _ lot] => ∃ (s : Nat) (a b : Str) (n m : Nat), i = (s : Nat) ∧ 1 ≤ s ∧ s ≤ 4096 ∧ lot = .tuple [keyD a n, keyD b m] ∧ (∀ K : Kd, K.ok → ∀ k, Q (.d k K.data)) ∧ ∀ k kds, Q (.d k (.tuple [.str "told", .dict kds]))
  | _ => False
theorem f__law_kind (T : Tx K mg) (F__law_draw : DFn P w K mg base TT false 1 2 "_law_draw" ["state", "room"] S__law_draw) (F__law_wholes : DFn P w K mg base TT false 3 4 "_law_wholes" ["state", "low", "high", "near"] S__law_wholes) (F__law_told : DFn P w K mg base TT false 4503599627370496 4 "_law_told" ["state", "size", "lot"] S__law_told) : DFn P w K mg base TT false 9007199254740992 5 "_law_kind" ["state", "size", "lot"] S__law_kind := by
  refine dfn (N := ["state", "size", "lot", "near", "way"]) T.ft__law_kind sc__law_kind (fun a cdv A out s H E C xc hg hT hr => by
    have F__law_draw : DFn P w K mg base C.T false 1 2 "_law_draw" ["state", "room"] S__law_draw := (by rw [hT]; exact F__law_draw); have F__law_wholes : DFn P w K mg base C.T false 3 4 "_law_wholes" ["state", "low", "high", "near"] S__law_wholes := (by rw [hT]; exact F__law_wholes); have F__law_told : DFn P w K mg base C.T false 4503599627370496 4 "_law_told" ["state", "size", "lot"] S__law_told := (by rw [hT]; exact F__law_told); have hr__law_draw := hr.mono (show 2 ≤ 4 by decide); have gd__law_draw : false = true → C.gd = true := fun h => (by cases h); have hr__law_wholes := hr.mono (show 4 ≤ 4 by decide); have gd__law_wholes : false = true → C.gd = true := fun h => (by cases h); have hr__law_told := hr.mono (show 4 ≤ 4 by decide); have gd__law_told : false = true → C.gd = true := fun h => (by cases h); exact (dss_cons (ds_set 3 sc__law_kind.nd (de_lst (da_cons de_int (da_cons (de_bin dop_sub (de_var 1) de_int) (da_cons (de_var 1) (da_cons (de_bin dop_fdivX (de_var 1) de_int) (da_cons (de_bin dop_mul de_int (de_var 1)) da_nil)))))))
  (dss_cons (ds_set 4 sc__law_kind.nd (de_call F__law_draw xc gd__law_draw hr__law_draw (da_cons (de_var 0) (da_cons de_int da_nil))))
  (dss_cons (ds_frz 3 (ds_if (dt_cmp dop_lt (de_var 4) de_int)
  (dss_one (ds_frz 3 (ds_ret (de_tup (da_cons de_str (da_cons (de_if (dt_cmp (dop_eq xc) (de_var 4) de_int) de_int (de_call F__law_wholes xc gd__law_wholes hr__law_wholes (da_cons (de_var 0) (da_cons de_int (da_cons de_int (da_cons (de_var 3) da_nil)))))) da_nil))))))
  dss_nil))
  (dss_cons (ds_if (dt_cmp (dop_eq xc) (de_var 4) de_int)
  (dss_one (ds_ret (de_tup (da_cons de_str da_nil))))
  dss_nil)
  (dss_cons (ds_frz 3 (ds_if (dt_cmp (dop_eq xc) (de_var 4) de_int)
  (dss_one (ds_frz 3 (ds_ret (de_tup (da_cons de_str (da_cons (de_call F__law_wholes xc gd__law_wholes hr__law_wholes (da_cons (de_var 0) (da_cons de_int (da_cons de_int (da_cons (de_var 3) da_nil))))) (da_cons (de_call F__law_wholes xc gd__law_wholes hr__law_wholes (da_cons (de_var 0) (da_cons de_int (da_cons de_int (da_cons (de_var 3) da_nil))))) da_nil)))))))
  dss_nil))
  (dss_cons (ds_if (dt_w (dw_or (dt_cmp (dop_eq xc) (de_var 4) de_int) (dw_or1 (dt_cmp dop_gt (de_var 1) de_int))))
  (dss_one (ds_ret (de_tup (da_cons de_str da_nil))))
  dss_nil)
  (dss_one (ds_ret (de_call F__law_told xc gd__law_told hr__law_told (da_cons (de_var 0) (da_cons (de_var 1) (da_cons (de_var 2) da_nil))))))))))))) ?_
  intro ss Q E hl h
  unfold S__law_kind at h
  split at h
  · rename_i k i k2 lot
    obtain ⟨s, a, b, n, m, rfl, s1, s2, rfl, h, h2⟩ := h
    refine ⟨trivial, ⟨by decide, by decide⟩, .inl ⟨by decide, by decide⟩, ?_⟩
    refine ⟨by decide, by decide, fun w w0 w1 => ?_⟩
    have near : ∀ d ∈ [PyData.int 1, .int (((s : Nat) : Int) - 1), .int (s : Nat), .int (((s : Nat) : Int) / 2), .int (2 * ((s : Nat) : Int))], ∃ z : Int, d = .int z := fun d hd => by
      simp only [List.mem_cons, List.not_mem_nil, or_false] at hd
      rcases hd with rfl | rfl | rfl | rfl | rfl <;> exact ⟨_, rfl⟩
    by_cases c0 : w < 2
    · refine if_t (b := decide (w < 2)) (decide_eq_true c0) ?_
      refine ⟨rfl, ?_⟩
      by_cases z : w = 0
      · refine if_t (b := PyData.eqv (.int w) (.int 0)) (by rw [eqv_ii]; exact decide_eq_true z) ?_
        exact h (.by_ 1) (show 1 ≤ 4095 by decide) _
      · refine if_f (b := PyData.eqv (.int w) (.int 0)) (by rw [eqv_ii]; exact decide_eq_false z) ?_
        refine ⟨rfl, rfl, Nat.le_refl 5, near, fun x hx kk => ?_⟩
        exact h (.by_ x) hx _
    refine if_f (b := decide (w < 2)) (decide_eq_false c0) ?_
    refine ⟨rfl, ?_⟩
    by_cases c2 : w = 2
    · refine if_t (b := PyData.eqv (.int w) (.int 2)) (by rw [eqv_ii]; exact decide_eq_true c2) ?_
      exact h .tri trivial _
    refine if_f (b := PyData.eqv (.int w) (.int 2)) (by rw [eqv_ii]; exact decide_eq_false c2) ?_
    refine ⟨rfl, ?_⟩
    by_cases c3 : w = 3
    · refine if_t (b := PyData.eqv (.int w) (.int 3)) (by rw [eqv_ii]; exact decide_eq_true c3) ?_
      refine ⟨rfl, rfl, Nat.le_refl 5, near, fun x hx kk => ?_⟩
      refine ⟨rfl, rfl, Nat.le_refl 5, near, fun y hy kk2 => ?_⟩
      exact h (.sq x y) ⟨hx, hy⟩ _
    refine if_f (b := PyData.eqv (.int w) (.int 3)) (by rw [eqv_ii]; exact decide_eq_false c3) ?_
    refine ⟨rfl, ?_⟩
    by_cases c4 : w = 4
    · refine if_t (b := PyData.eqv (.int w) (.int 4)) (by rw [eqv_ii]; exact decide_eq_true c4) ?_
      exact h .own trivial _
    refine if_f (b := PyData.eqv (.int w) (.int 4)) (by rw [eqv_ii]; exact decide_eq_false c4) ?_
    by_cases c5 : s > 12
    · refine if_t (b := decide (((s : Nat) : Int) > 12)) (decide_eq_true (by omega)) ?_
      exact h .own trivial _
    refine if_f (b := decide (((s : Nat) : Int) > 12)) (decide_eq_false (by omega)) ?_
    exact ⟨s, a, b, n, m, rfl, s1, by omega, rfl, h2⟩
  · exact h.elim
abbrev s_is_whole : Stmt := top 14
theorem sc_is_whole : FnScope ["value", "low", "high"] ["value", "low", "high"] (defScope s_is_whole) := ⟨rfl, rfl, rfl, by decide +kernel, rfl, by decide +kernel, by decide +kernel⟩
def S_is_whole : FS := fun ss Q _ => match ss with
  | [.d _ d, .d _ (.int lo), .d _ (.int hi)] => Q (.d false (.bool (isWhole d lo hi)))
  | _ => False
theorem f_is_whole (T : Tx K mg) : DFn P w K mg base TT false 0 1 "is_whole" ["value", "low", "high"] S_is_whole := by
  refine dfn (N := ["value", "low", "high"]) T.ft_is_whole sc_is_whole (fun a cdv A out s H E C xc hg hT hr => by
    exact (dss_one (ds_ret (de_and (de_isi .int T.b_isinstance T.b_int boot_int (de_var 0) xc) (de_and (de_not (de_isi .bool T.b_isinstance T.b_bool boot_bool (de_var 0) xc)) (de_one (de_chain dop_le dop_le (de_var 1) (de_var 0) (de_var 2)))))))) ?_
  intro ss Q E hl h
  unfold S_is_whole at h
  split at h
  · rename_i k d k1 lo k2 hi
    cases d with
    | int i =>
      show if decide (lo ≤ i) = true then Q (.d false (.bool (decide (i ≤ hi)))) else Q (.d false (.bool false))
      have h : Q (.d false (.bool (decide (lo ≤ i) && decide (i ≤ hi)))) := h
      cases q : decide (lo ≤ i) with
      | true => rw [q] at h; exact h
      | false => rw [q] at h; exact h
    | _ => exact h
  · exact h.elim
abbrev s_is_name : Stmt := top 15
theorem sc_is_name : FnScope ["value", "sign"] ["value"] (defScope s_is_name) := ⟨rfl, rfl, rfl, by decide +kernel, rfl, by decide +kernel, by decide +kernel⟩
def S_is_name : FS := fun ss Q E => match ss with
  | [.d _ d] => ∃ x : Str, d = .str x ∧ x ∈ NMS ∧ Q (.d false (.bool true))
  | _ => False
theorem f_is_name (T : Tx K mg) : DFn P w K mg base TT false 0 1 "is_name" ["value"] S_is_name := by
  refine dfn (N := ["value", "sign"]) T.ft_is_name sc_is_name (fun a cdv A out s H E C xc hg hT hr => by
    exact (dss_cons (ds_if (dt_w (dw_or (dt_not (dt_val (de_isi .str T.b_isinstance T.b_str boot_str (de_var 0) xc))) (dw_or1 (dt_not (dt_chain dop_le dop_le de_int (de_b1 (dcall_len xc) T.b_len (by decide +kernel) (de_var 0) xc) (de_glob xc T.g_MOST_LETTERS))))))
  (dss_one (ds_ret de_bool))
  dss_nil)
  (dss_one (ds_ret (de_b1 (dcall_all xc) T.b_all (by decide +kernel) (de_lc (own := [("sign", 1)]) xc sc_is_name.nd (di_str (de_var 0)) (blkOk_by (own := [("sign", 1)]) (N := ["value", "sign"]) (sc := defScope s_is_name) (by decide +kernel)) (fun _ _ _ _ _ => (dg_name (vs := ([("sign", 1)] : List (Str × Nat)).map (·.2)) 1 sc_is_name.nd)) (fun _ _ _ _ _ => dts_nil) (fun _ _ _ _ _ => (de_cmp (dop_in (xc.blk)) (de_var 1) (de_glob (xc.blk) T.g_LETTERS)))) xc))))) ?_
  intro ss Q E hl h
  unfold S_is_name at h
  split at h
  · rename_i k d
    obtain ⟨x, rfl, hx, h⟩ := h
    simp only [NMS, List.mem_cons, List.not_mem_nil, or_false] at hx
    rcases hx with rfl | rfl | rfl | rfl | rfl | rfl | rfl | rfl <;>
    · repeat (first | refine if_t (by decide) ?_ | refine if_f (by decide) ?_ | refine ⟨(_ : D), rfl, ?_⟩ | refine ⟨(_ : D), at0 _ _, ?_⟩ | refine ⟨trivial, ?_⟩ | refine ⟨rfl, ?_⟩ | refine ⟨.inr ⟨by omega, by omega⟩, ?_⟩ | refine ⟨.inl ⟨by omega, by omega⟩, ?_⟩ | refine ⟨(by omega : (_ : Prop)), ?_⟩ | refine ⟨(by decide +kernel : (_ : Prop)), (by decide +kernel : (_ : Prop)), ?_⟩)
      first
      | (refine ⟨_, rfl, ?_⟩; refine ⟨[decide (_ ∈ _)], rfl, ?_⟩; exact Q_bool (by decide +kernel) h)
      | (refine ⟨_, rfl, ?_⟩; refine ⟨_, rfl, ?_⟩; refine ⟨[decide (_ ∈ _), decide (_ ∈ _)], rfl, ?_⟩; exact Q_bool (by decide +kernel) h)
      | (refine ⟨_, rfl, ?_⟩; refine ⟨_, rfl, ?_⟩; refine ⟨_, rfl, ?_⟩; refine ⟨[decide (_ ∈ _), decide (_ ∈ _), decide (_ ∈ _)], rfl, ?_⟩; exact Q_bool (by decide +kernel) h)
  · exact h.elim
abbrev s_is_key : Stmt := top 16
theorem sc_is_key : FnScope ["value"] ["value"] (defScope s_is_key) := ⟨rfl, rfl, rfl, by decide +kernel, rfl, by decide +kernel, by decide +kernel⟩
def S_is_key : FS := fun ss Q E => match ss with
  | [.d _ d] => ∃ (n : Nat) (x : Str), d = keyD x n ∧ x ∈ NMS ∧ n ≤ 4294967295 ∧ Q (.d false (.bool true))
  | _ => False
theorem f_is_key (T : Tx K mg) (F_is_whole : DFn P w K mg base TT false 0 1 "is_whole" ["value", "low", "high"] S_is_whole) (F_is_name : DFn P w K mg base TT false 0 1 "is_name" ["value"] S_is_name) : DFn P w K mg base TT false 0 2 "is_key" ["value"] S_is_key := by
  refine dfn (N := ["value"]) T.ft_is_key sc_is_key (fun a cdv A out s H E C xc hg hT hr => by
    have F_is_whole : DFn P w K mg base C.T false 0 1 "is_whole" ["value", "low", "high"] S_is_whole := (by rw [hT]; exact F_is_whole); have F_is_name : DFn P w K mg base C.T false 0 1 "is_name" ["value"] S_is_name := (by rw [hT]; exact F_is_name); have hr_is_whole := hr.mono (show 1 ≤ 1 by decide); have gd_is_whole : false = true → C.gd = true := fun h => (by cases h); have hr_is_name := hr.mono (show 1 ≤ 1 by decide); have gd_is_name : false = true → C.gd = true := fun h => (by cases h); exact (dss_cons (ds_if (dt_w (dw_or (dt_not (dt_val (de_isi .tuple T.b_isinstance T.b_tuple boot_tuple (de_var 0) xc))) (dw_or1 (dt_cmp (dop_ne xc) (de_b1 (dcall_len xc) T.b_len (by decide +kernel) (de_var 0) xc) de_int))))
  (dss_one (ds_ret de_bool))
  dss_nil)
  (dss_one (ds_ret (de_and (de_call F_is_name xc gd_is_name hr_is_name (da_cons (de_ix xc (de_var 0) de_int) da_nil)) (de_one (de_call F_is_whole xc gd_is_whole hr_is_whole (da_cons (de_ix xc (de_var 0) de_int) (da_cons de_int (da_cons (de_glob xc T.g_MOST_NUMBER) da_nil)))))))))) ?_
  intro ss Q E hl h
  unfold S_is_key at h
  split at h
  · rename_i k d
    obtain ⟨n, x, rfl, hx, hn, h⟩ := h
    repeat (first | refine if_t (by decide) ?_ | refine if_f (by decide) ?_ | refine ⟨(_ : D), rfl, ?_⟩ | refine ⟨(_ : D), at0 _ _, ?_⟩ | refine ⟨trivial, ?_⟩ | refine ⟨rfl, ?_⟩ | refine ⟨.inr ⟨by omega, by omega⟩, ?_⟩ | refine ⟨.inl ⟨by omega, by omega⟩, ?_⟩ | refine ⟨(by omega : (_ : Prop)), ?_⟩ | refine ⟨(by decide +kernel : (_ : Prop)), (by decide +kernel : (_ : Prop)), ?_⟩)
    refine ⟨x, rfl, hx, ?_⟩
    repeat (first | refine if_t (by decide) ?_ | refine if_f (by decide) ?_ | refine ⟨(_ : D), rfl, ?_⟩ | refine ⟨(_ : D), at0 _ _, ?_⟩ | refine ⟨trivial, ?_⟩ | refine ⟨rfl, ?_⟩ | refine ⟨.inr ⟨by omega, by omega⟩, ?_⟩ | refine ⟨.inl ⟨by omega, by omega⟩, ?_⟩ | refine ⟨(by omega : (_ : Prop)), ?_⟩ | refine ⟨(by decide +kernel : (_ : Prop)), (by decide +kernel : (_ : Prop)), ?_⟩)
    exact Q_bool (whole_yes (by omega) (by omega)) h
  · exact h.elim
abbrev s_need_size : Stmt := top 17
theorem sc_need_size : FnScope ["size"] ["size"] (defScope s_need_size) := ⟨rfl, rfl, rfl, by decide +kernel, rfl, by decide +kernel, by decide +kernel⟩
def S_need_size : FS := fun ss Q E => match ss with
  | [.d _ d] => (isWhole d 1 4096 = true ∧ Q (.d false .none)) ∨ (isWhole d 1 4096 = false ∧ E "BadSize")
  | _ => False
theorem f_need_size (T : Tx K mg) (F_is_whole : DFn P w K mg base TT false 0 1 "is_whole" ["value", "low", "high"] S_is_whole) : DFn P w K mg base TT false 0 2 "need_size" ["size"] S_need_size := by
  refine dfn (N := ["size"]) T.ft_need_size sc_need_size (fun a cdv A out s H E C xc hg hT hr => by
    have F_is_whole : DFn P w K mg base C.T false 0 1 "is_whole" ["value", "low", "high"] S_is_whole := (by rw [hT]; exact F_is_whole); have hr_is_whole := hr.mono (show 1 ≤ 1 by decide); have gd_is_whole : false = true → C.gd = true := fun h => (by cases h); exact (dss_one (ds_if (dt_not (dt_val (de_call F_is_whole xc gd_is_whole hr_is_whole (da_cons (de_var 0) (da_cons de_int (da_cons (de_glob xc T.g_MOST_SIZE) da_nil))))))
  (dss_one (ds_raise xc T.e_BadSize))
  dss_nil))) ?_
  intro ss Q E hl h
  unfold S_need_size at h
  split at h
  · rename_i k d
    rcases h with ⟨e, h⟩ | ⟨e, h⟩
    · exact if_f (b := !(isWhole d 1 4096)) (by rw [e]; rfl) h
    · exact if_t (b := !(isWhole d 1 4096)) (by rw [e]; rfl) h
  · exact h.elim
abbrev s_need_key : Stmt := top 18
theorem sc_need_key : FnScope ["key"] ["key"] (defScope s_need_key) := ⟨rfl, rfl, rfl, by decide +kernel, rfl, by decide +kernel, by decide +kernel⟩
def S_need_key : FS := fun ss Q E => match ss with
  | [.d _ d] => ∃ (n : Nat) (x : Str), d = keyD x n ∧ x ∈ NMS ∧ n ≤ 4294967295 ∧ Q (.d false .none)
  | _ => False
theorem f_need_key (T : Tx K mg) (F_is_key : DFn P w K mg base TT false 0 2 "is_key" ["value"] S_is_key) : DFn P w K mg base TT false 0 3 "need_key" ["key"] S_need_key := by
  refine dfn (N := ["key"]) T.ft_need_key sc_need_key (fun a cdv A out s H E C xc hg hT hr => by
    have F_is_key : DFn P w K mg base C.T false 0 2 "is_key" ["value"] S_is_key := (by rw [hT]; exact F_is_key); have hr_is_key := hr.mono (show 2 ≤ 2 by decide); have gd_is_key : false = true → C.gd = true := fun h => (by cases h); exact (dss_one (ds_if (dt_not (dt_val (de_call F_is_key xc gd_is_key hr_is_key (da_cons (de_var 0) da_nil))))
  (dss_one (ds_raise xc T.e_BadKey))
  dss_nil))) ?_
  intro ss Q E hl h
  unfold S_need_key at h
  split at h
  · rename_i k d
    obtain ⟨n, x, rfl, hx, hn, h⟩ := h
    exact ⟨n, x, rfl, hx, hn, h⟩
  · exact h.elim
abbrev s_need_cell : Stmt := top 19
theorem sc_need_cell : FnScope ["size", "cell"] ["size", "cell"] (defScope s_need_cell) := ⟨rfl, rfl, rfl, by decide +kernel, rfl, by decide +kernel, by decide +kernel⟩
def S_need_cell : FS := fun ss Q E => match ss with
  | [.d _ (.int i), .d _ (.int j)] => ∃ s c : Nat, i = (s : Nat) ∧ j = (c : Nat) ∧ c < s ∧ Q (.d false .none)
  | _ => False
theorem f_need_cell (T : Tx K mg) (F_is_whole : DFn P w K mg base TT false 0 1 "is_whole" ["value", "low", "high"] S_is_whole) : DFn P w K mg base TT false 0 2 "need_cell" ["size", "cell"] S_need_cell := by
  refine dfn (N := ["size", "cell"]) T.ft_need_cell sc_need_cell (fun a cdv A out s H E C xc hg hT hr => by
    have F_is_whole : DFn P w K mg base C.T false 0 1 "is_whole" ["value", "low", "high"] S_is_whole := (by rw [hT]; exact F_is_whole); have hr_is_whole := hr.mono (show 1 ≤ 1 by decide); have gd_is_whole : false = true → C.gd = true := fun h => (by cases h); exact (dss_one (ds_if (dt_not (dt_val (de_call F_is_whole xc gd_is_whole hr_is_whole (da_cons (de_var 1) (da_cons de_int (da_cons (de_bin dop_sub (de_var 0) de_int) da_nil))))))
  (dss_one (ds_raise xc T.e_BadCell))
  dss_nil))) ?_
  intro ss Q E hl h
  unfold S_need_cell at h
  split at h
  · rename_i k i k2 j
    obtain ⟨s, c, rfl, rfl, hc, h⟩ := h
    refine ⟨trivial, ?_⟩
    refine if_f (b := !(isWhole (.int (c : Nat)) 0 (((s : Nat) : Int) - 1))) (by rw [whole_yes (by omega) (by omega)]; rfl) ?_
    exact h
  · exact h.elim
abbrev s_is_cells : Stmt := top 22
theorem sc_is_cells : FnScope ["size", "value", "cell"] ["size", "value"] (defScope s_is_cells) := ⟨rfl, rfl, rfl, by decide +kernel, rfl, by decide +kernel, by decide +kernel⟩
def S_is_cells : FS := fun ss Q E => match ss with
  | [.d _ (.int i), .d _ v] => ∃ (s : Nat) (l : List Nat), i = (s : Nat) ∧ s ≤ 1000 ∧ v = .tuple (l.map fun x => .int (x : Nat)) ∧ l ≠ [] ∧ (∀ x ∈ l, x < s) ∧ l.Nodup ∧ Q (.d false (.bool true))
  | _ => False
theorem f_is_cells (T : Tx K mg) (F_is_whole : DFn P w K mg base TT false 0 1 "is_whole" ["value", "low", "high"] S_is_whole) : DFn P w K mg base TT false 0 2 "is_cells" ["size", "value"] S_is_cells := by
  refine dfn (N := ["size", "value", "cell"]) T.ft_is_cells sc_is_cells (fun a cdv A out s H E C xc hg hT hr => by
    have F_is_whole : DFn P w K mg base C.T false 0 1 "is_whole" ["value", "low", "high"] S_is_whole := (by rw [hT]; exact F_is_whole); have hr_is_whole := hr.mono (show 1 ≤ 1 by decide); have gd_is_whole : false = true → C.gd = true := fun h => (by cases h); exact (dss_cons (ds_if (dt_w (dw_or (dt_not (dt_val (de_isi .tuple T.b_isinstance T.b_tuple boot_tuple (de_var 1) xc))) (dw_or1 (dt_not (dt_chain dop_le dop_le de_int (de_b1 (dcall_len xc) T.b_len (by decide +kernel) (de_var 1) xc) (de_var 0))))))
  (dss_one (ds_ret de_bool))
  dss_nil)
  (dss_one (ds_ret (de_and (de_b1 (dcall_all xc) T.b_all (by decide +kernel) (de_lc (own := [("cell", 2)]) xc sc_is_cells.nd (di_or (di_list xc (de_var 1)) (di_tup xc (de_var 1))) (blkOk_by (own := [("cell", 2)]) (N := ["size", "value", "cell"]) (sc := defScope s_is_cells) (by decide +kernel)) (fun _ _ _ _ _ => (dg_name (vs := ([("cell", 2)] : List (Str × Nat)).map (·.2)) 2 sc_is_cells.nd)) (fun _ _ _ _ _ => dts_nil) (fun _ _ _ _ _ => (de_call F_is_whole (xc.blk) gd_is_whole hr_is_whole (da_cons (de_var 2) (da_cons de_int (da_cons (de_bin dop_sub (de_var 0) de_int) da_nil)))))) xc) (de_one (de_cmp (dop_eq xc) (de_lenSet xc T.b_len T.b_set (de_var 1)) (de_b1 (dcall_len xc) T.b_len (by decide +kernel) (de_var 1) xc)))))))) ?_
  intro ss Q E hl h
  unfold S_is_cells at h
  split at h
  · rename_i k i k2 v
    obtain ⟨s, l, rfl, s2, rfl, ne, lt, nd, h⟩ := h
    have lp : 1 ≤ l.length := List.length_pos_iff.mpr ne
    have ls : l.length ≤ s := by
      have q := sub_len l (List.range s) nd fun x hx => List.mem_range.mpr (lt x hx)
      rwa [List.length_range] at q
    have ll : (l.map fun x => PyData.int (x : Nat)).length = l.length := by rw [List.length_map]
    refine if_t (b := decide ((1 : Int) ≤ ((l.map fun x => PyData.int (x : Nat)).length : Nat))) (decide_eq_true (by rw [ll]; omega)) ?_
    refine if_f (b := !(decide ((((l.map fun x => PyData.int (x : Nat)).length : Nat) : Int) ≤ (s : Nat)))) (by rw [decide_eq_true (show (((l.map fun x => PyData.int (x : Nat)).length : Nat) : Int) ≤ (s : Nat) by rw [ll]; omega)]; rfl) ?_
    refine .inr ?_
    refine comp_ind (fun ss k acc => ∃ (w : List Nat) (j : Nat), ss = w.map (fun x => SV.d k2 (.int (x : Nat))) ∧ (∀ x ∈ w, x < s) ∧ acc = (List.replicate j true).map PyData.bool) ?_ ?_ _ _ _ ⟨l, 0, by rw [List.map_map]; rfl, lt, rfl⟩
    · rintro v t k3 acc ⟨w, j, hs, hw, rfl⟩ J hJ
      cases w with
      | nil => cases hs
      | cons x w =>
        injection hs with hs1 hs2
        subst hs1; subst hs2
        have xs := hw x List.mem_cons_self
        refine ⟨trivial, ?_⟩
        show J (k3 || false) (_ ++ [.bool (isWhole (.int (x : Nat)) 0 (((s : Nat) : Int) - 1))])
        rw [whole_yes (by omega) (by omega)]
        exact hJ _ _ ⟨w, j + 1, rfl, fun y hy => hw y (List.mem_cons_of_mem _ hy), by rw [List.replicate_succ', List.map_append]; rfl⟩
    · rintro k3 acc ⟨w, j, hs, hw, rfl⟩
      refine ⟨_, bools_lv2 _ _, ?_⟩
      refine if_t (b := (List.replicate j true).all fun b => b) (all_rep j) ?_
      refine ⟨l.map fun x => ((x : Nat) : Int), by rw [List.map_map]; rfl, List.pairwise_map.mpr (List.Pairwise.imp (fun {a b} q z => q (by omega)) nd), by rw [List.length_map]; omega, ?_⟩
      refine ⟨rfl, ?_⟩
      refine Q_bool ?_ h
      show PyData.eqv (.int ((l.map fun x => ((x : Nat) : Int)).length : Nat)) (.int ((l.map fun x => PyData.int (x : Nat)).length : Nat)) = true
      rw [len_is, List.length_map, List.length_map]
      exact decide_eq_true rfl
  · exact h.elim
abbrev s_is_plain_kind : Stmt := top 24
theorem sc_is_plain_kind : FnScope ["value", "many", "step"] ["value"] (defScope s_is_plain_kind) := ⟨rfl, rfl, rfl, by decide +kernel, rfl, by decide +kernel, by decide +kernel⟩
def S_is_plain_kind : FS := fun ss Q E => match ss with
  | [.d _ d] => ∃ K : Kd, d = K.data ∧ K.ok ∧ K ≠ .own ∧ Q (.d false (.bool true))
  | _ => False
theorem f_is_plain_kind (T : Tx K mg) (F_is_whole : DFn P w K mg base TT false 0 1 "is_whole" ["value", "low", "high"] S_is_whole) : DFn P w K mg base TT false 0 2 "is_plain_kind" ["value"] S_is_plain_kind := by
  refine dfn (N := ["value", "many", "step"]) T.ft_is_plain_kind sc_is_plain_kind (fun a cdv A out s H E C xc hg hT hr => by
    have F_is_whole : DFn P w K mg base C.T false 0 1 "is_whole" ["value", "low", "high"] S_is_whole := (by rw [hT]; exact F_is_whole); have hr_is_whole := hr.mono (show 1 ≤ 1 by decide); have gd_is_whole : false = true → C.gd = true := fun h => (by cases h); exact (dss_cons (ds_if (dt_w (dw_or (dt_not (dt_val (de_isi .tuple T.b_isinstance T.b_tuple boot_tuple (de_var 0) xc))) (dw_or (dt_cmp (dop_eq xc) (de_var 0) (de_tup da_nil)) (dw_or1 (dt_not (dt_val (de_isi .str T.b_isinstance T.b_str boot_str (de_ix xc (de_var 0) de_int) xc)))))))
  (dss_one (ds_ret de_bool))
  dss_nil)
  (dss_cons (ds_set 1 sc_is_plain_kind.nd (de_get3 xc (de_ix xc (de_var 0) de_int)))
  (dss_one (ds_frz 1 (ds_ret (de_and (de_cmp (dop_eq xc) (de_b1 (dcall_len xc) T.b_len (by decide +kernel) (de_var 0) xc) (de_var 1)) (de_one (de_b1 (dcall_all xc) T.b_all (by decide +kernel) (de_lc (own := [("step", 2)]) xc sc_is_plain_kind.nd (di_or (di_list xc (de_sl xc (de_var 0) (do_some de_int) do_none)) (di_tup xc (de_sl xc (de_var 0) (do_some de_int) do_none))) (blkOk_by (own := [("step", 2)]) (N := ["value", "many", "step"]) (sc := defScope s_is_plain_kind) (by decide +kernel)) (fun _ _ _ _ _ => (dg_name (vs := ([("step", 2)] : List (Str × Nat)).map (·.2)) 2 sc_is_plain_kind.nd)) (fun _ _ _ _ _ => dts_nil) (fun _ _ _ _ _ => (de_call F_is_whole (xc.blk) gd_is_whole hr_is_whole (da_cons (de_var 2) (da_cons de_int (da_cons (de_glob (xc.blk) T.g_MOST_STEP) da_nil)))))) xc))))))))) ?_
  intro ss Q E hl h
  unfold S_is_plain_kind at h
  split at h
  · rename_i k d
    obtain ⟨K, rfl, ok, hK, h⟩ := h
    have sh := kd_shaped K
    cases K with
    | own => exact absurd rfl hK
    | by_ a =>
      have ok : a ≤ 4095 := ok
      repeat (first | refine if_t (by decide) ?_ | refine if_f (by decide) ?_ | refine ⟨(_ : D), rfl, ?_⟩ | refine ⟨(_ : D), at0 _ _, ?_⟩ | refine ⟨trivial, ?_⟩ | refine ⟨rfl, ?_⟩ | refine ⟨.inr ⟨by omega, by omega⟩, ?_⟩ | refine ⟨.inl ⟨by omega, by omega⟩, ?_⟩ | refine ⟨(by omega : (_ : Prop)), ?_⟩ | refine ⟨(by decide +kernel : (_ : Prop)), (by decide +kernel : (_ : Prop)), ?_⟩)
      refine .inr ?_
      refine ⟨[isWhole (.int (a : Nat)) 0 4095], rfl, ?_⟩
      exact Q_bool (by rw [List.all_cons, whole_yes (by omega) (by omega)]; rfl) h
    | tri =>
      repeat (first | refine if_t (by decide) ?_ | refine if_f (by decide) ?_ | refine ⟨(_ : D), rfl, ?_⟩ | refine ⟨(_ : D), at0 _ _, ?_⟩ | refine ⟨trivial, ?_⟩ | refine ⟨rfl, ?_⟩ | refine ⟨.inr ⟨by omega, by omega⟩, ?_⟩ | refine ⟨.inl ⟨by omega, by omega⟩, ?_⟩ | refine ⟨(by omega : (_ : Prop)), ?_⟩ | refine ⟨(by decide +kernel : (_ : Prop)), (by decide +kernel : (_ : Prop)), ?_⟩)
      refine .inr ?_
      refine ⟨[], rfl, ?_⟩
      exact h
    | sq b c =>
      obtain ⟨ok1, ok2⟩ : b ≤ 4095 ∧ c ≤ 4095 := ok
      repeat (first | refine if_t (by decide) ?_ | refine if_f (by decide) ?_ | refine ⟨(_ : D), rfl, ?_⟩ | refine ⟨(_ : D), at0 _ _, ?_⟩ | refine ⟨trivial, ?_⟩ | refine ⟨rfl, ?_⟩ | refine ⟨.inr ⟨by omega, by omega⟩, ?_⟩ | refine ⟨.inl ⟨by omega, by omega⟩, ?_⟩ | refine ⟨(by omega : (_ : Prop)), ?_⟩ | refine ⟨(by decide +kernel : (_ : Prop)), (by decide +kernel : (_ : Prop)), ?_⟩)
      refine .inr ?_
      refine ⟨[isWhole (.int (b : Nat)) 0 4095, isWhole (.int (c : Nat)) 0 4095], rfl, ?_⟩
      exact Q_bool (by rw [List.all_cons, List.all_cons, whole_yes (by omega) (by omega), whole_yes (by omega) (by omega)]; rfl) h
  · exact h.elim
abbrev s_is_kind_of : Stmt := top 25
theorem sc_is_kind_of : FnScope ["size", "value"] ["size", "value"] (defScope s_is_kind_of) := ⟨rfl, rfl, rfl, by decide +kernel, rfl, by decide +kernel, by decide +kernel⟩
def S_is_kind_of : FS := fun ss Q E => match ss with
  | [.d _ _, .d _ d] => ∃ K : Kd, d = K.data ∧ K.ok ∧ Q (.d false (.bool true))
  | _ => False
theorem f_is_kind_of (T : Tx K mg) (F_is_plain_kind : DFn P w K mg base TT false 0 2 "is_plain_kind" ["value"] S_is_plain_kind) : DFn P w K mg base TT false 0 3 "is_kind_of" ["size", "value"] S_is_kind_of := by
  refine dfn (N := ["size", "value"]) T.ft_is_kind_of sc_is_kind_of (fun a cdv A out s H E C xc hg hT hr => by
    have F_is_plain_kind : DFn P w K mg base C.T false 0 2 "is_plain_kind" ["value"] S_is_plain_kind := (by rw [hT]; exact F_is_plain_kind); have hr_is_plain_kind := hr.mono (show 2 ≤ 2 by decide); have gd_is_plain_kind : false = true → C.gd = true := fun h => (by cases h); exact (dss_cons (ds_if (dt_w (dw_or (dt_not (dt_val (de_isi .tuple T.b_isinstance T.b_tuple boot_tuple (de_var 1) xc))) (dw_or (dt_cmp (dop_eq xc) (de_var 1) (de_tup da_nil)) (dw_or1 (dt_not (dt_val (de_isi .str T.b_isinstance T.b_str boot_str (de_ix xc (de_var 1) de_int) xc)))))))
  (dss_one (ds_ret de_bool))
  dss_nil)
  (dss_cons (ds_if (dt_cmp (dop_eq xc) (de_ix xc (de_var 1) de_int) de_str)
  (dss_one (ds_ret (de_and (de_cmp (dop_eq xc) (de_b1 (dcall_len xc) T.b_len (by decide +kernel) (de_var 1) xc) de_int) (de_one de_never))))
  dss_nil)
  (dss_one (ds_ret (de_or (de_cmp (dop_eq xc) (de_var 1) (de_tup (da_cons de_str da_nil))) (de_one (de_call F_is_plain_kind xc gd_is_plain_kind hr_is_plain_kind (da_cons (de_var 1) da_nil))))))))) ?_
  intro ss Q E hl h
  unfold S_is_kind_of at h
  split at h
  · rename_i k z k2 d
    obtain ⟨K, rfl, ok, h⟩ := h
    have sh := kd_shaped K
    have sh2 := kd_shaped2 K
    cases K with
    | own =>
      repeat (first | refine if_t (by decide) ?_ | refine if_f (by decide) ?_ | refine ⟨(_ : D), rfl, ?_⟩ | refine ⟨(_ : D), at0 _ _, ?_⟩ | refine ⟨trivial, ?_⟩ | refine ⟨rfl, ?_⟩ | refine ⟨.inr ⟨by omega, by omega⟩, ?_⟩ | refine ⟨.inl ⟨by omega, by omega⟩, ?_⟩ | refine ⟨(by omega : (_ : Prop)), ?_⟩ | refine ⟨(by decide +kernel : (_ : Prop)), (by decide +kernel : (_ : Prop)), ?_⟩)
      exact h
    | by_ a =>
      repeat (first | refine if_t (by decide) ?_ | refine if_f (by decide) ?_ | refine ⟨(_ : D), rfl, ?_⟩ | refine ⟨(_ : D), at0 _ _, ?_⟩ | refine ⟨trivial, ?_⟩ | refine ⟨rfl, ?_⟩ | refine ⟨.inr ⟨by omega, by omega⟩, ?_⟩ | refine ⟨.inl ⟨by omega, by omega⟩, ?_⟩ | refine ⟨(by omega : (_ : Prop)), ?_⟩ | refine ⟨(by decide +kernel : (_ : Prop)), (by decide +kernel : (_ : Prop)), ?_⟩)
      exact ⟨.by_ a, rfl, ok, fun e => Kd.noConfusion e, h⟩
    | tri =>
      repeat (first | refine if_t (by decide) ?_ | refine if_f (by decide) ?_ | refine ⟨(_ : D), rfl, ?_⟩ | refine ⟨(_ : D), at0 _ _, ?_⟩ | refine ⟨trivial, ?_⟩ | refine ⟨rfl, ?_⟩ | refine ⟨.inr ⟨by omega, by omega⟩, ?_⟩ | refine ⟨.inl ⟨by omega, by omega⟩, ?_⟩ | refine ⟨(by omega : (_ : Prop)), ?_⟩ | refine ⟨(by decide +kernel : (_ : Prop)), (by decide +kernel : (_ : Prop)), ?_⟩)
      exact ⟨.tri, rfl, ok, fun e => Kd.noConfusion e, h⟩
    | sq b c =>
      repeat (first | refine if_t (by decide) ?_ | refine if_f (by decide) ?_ | refine ⟨(_ : D), rfl, ?_⟩ | refine ⟨(_ : D), at0 _ _, ?_⟩ | refine ⟨trivial, ?_⟩ | refine ⟨rfl, ?_⟩ | refine ⟨.inr ⟨by omega, by omega⟩, ?_⟩ | refine ⟨.inl ⟨by omega, by omega⟩, ?_⟩ | refine ⟨(by omega : (_ : Prop)), ?_⟩ | refine ⟨(by decide +kernel : (_ : Prop)), (by decide +kernel : (_ : Prop)), ?_⟩)
      exact ⟨.sq b c, rfl, ok, fun e => Kd.noConfusion e, h⟩
  · exact h.elim
abbrev s_need_kind : Stmt := top 26
theorem sc_need_kind : FnScope ["size", "kind"] ["size", "kind"] (defScope s_need_kind) := ⟨rfl, rfl, rfl, by decide +kernel, rfl, by decide +kernel, by decide +kernel⟩
def S_need_kind : FS := fun ss Q E => match ss with
  | [.d _ _, .d _ d] => ∃ K : Kd, d = K.data ∧ K.ok ∧ Q (.d false .none)
  | _ => False
theorem f_need_kind (T : Tx K mg) (F_is_kind_of : DFn P w K mg base TT false 0 3 "is_kind_of" ["size", "value"] S_is_kind_of) : DFn P w K mg base TT false 0 4 "need_kind" ["size", "kind"] S_need_kind := by
  refine dfn (N := ["size", "kind"]) T.ft_need_kind sc_need_kind (fun a cdv A out s H E C xc hg hT hr => by
    have F_is_kind_of : DFn P w K mg base C.T false 0 3 "is_kind_of" ["size", "value"] S_is_kind_of := (by rw [hT]; exact F_is_kind_of); have hr_is_kind_of := hr.mono (show 3 ≤ 3 by decide); have gd_is_kind_of : false = true → C.gd = true := fun h => (by cases h); exact (dss_one (ds_if (dt_not (dt_val (de_call F_is_kind_of xc gd_is_kind_of hr_is_kind_of (da_cons (de_var 0) (da_cons (de_var 1) da_nil)))))
  (dss_one (ds_raise xc T.e_BadKind))
  dss_nil))) ?_
  intro ss Q E hl h
  unfold S_need_kind at h
  split at h
  · rename_i k z k2 d
    obtain ⟨K, rfl, ok, h⟩ := h
    exact ⟨K, rfl, ok, h⟩
  · exact h.elim
abbrev s_step_of : Stmt := top 28
theorem sc_step_of : FnScope ["size", "number"] ["size", "number"] (defScope s_step_of) := ⟨rfl, rfl, rfl, by decide +kernel, rfl, by decide +kernel, by decide +kernel⟩
def S_step_of : FS := fun ss Q E => match ss with
  | [.d _ (.int i), .d _ (.int j)] => ∃ s n : Nat, i = (s : Nat) ∧ j = (n : Nat) ∧ 1 ≤ s ∧ s ≤ 4096 ∧ Q (.d false (.int (stepN s n : Nat)))
  | _ => False
theorem f_step_of (T : Tx K mg) : DFn P w K mg base TT false 0 1 "step_of" ["size", "number"] S_step_of := by
  refine dfn (N := ["size", "number"]) T.ft_step_of sc_step_of (fun a cdv A out s H E C xc hg hT hr => by
    exact (dss_one (ds_ret (de_if (dt_cmp (dop_eq xc) (de_var 0) de_int) de_int (de_bin (dop_add xc) de_int (de_bin dop_mod (de_bin dop_fdivX (de_var 1) (de_var 0)) (de_bin dop_sub (de_var 0) de_int))))))) ?_
  intro ss Q E hl h
  unfold S_step_of at h
  split at h
  · rename_i k i k2 j
    obtain ⟨s, n, rfl, rfl, s1, s2, h⟩ := h
    refine ⟨rfl, ?_⟩
    by_cases one : s = 1
    · refine if_t (b := PyData.eqv (.int (s : Nat)) (.int 1)) (by rw [show (1 : Int) = ((1 : Nat) : Int) from rfl, len_is]; exact decide_eq_true one) ?_
      exact Q_int (show (1 : Int) = (stepN s n : Nat) by unfold stepN; rw [if_pos one]; rfl) h
    · refine if_f (b := PyData.eqv (.int (s : Nat)) (.int 1)) (by rw [show (1 : Int) = ((1 : Nat) : Int) from rfl, len_is]; exact decide_eq_false one) ?_
      refine ⟨⟨show (0 : Int) < (s : Nat) by omega, small_div (by omega)⟩, ?_⟩
      refine ⟨trivial, show ((s : Nat) : Int) - 1 ≠ 0 by omega, ?_⟩
      refine Q_int ?_ h
      show 1 + (((n : Nat) : Int) / (s : Nat)).fmod (((s : Nat) : Int) - 1) = (stepN s n : Nat)
      unfold stepN
      rw [if_neg one, show ((s : Nat) : Int) - 1 = ((s - 1 : Nat) : Int) by omega, show ((n : Nat) : Int) / (s : Nat) = ((n / s : Nat) : Int) from rfl, nat_fmod]
      omega
  · exact h.elim
abbrev s_cells_in_turn : Stmt := top 29
theorem sc_cells_in_turn : FnScope ["size", "kind", "number", "step", "at", "home", "found", "far"] ["size", "kind", "number"] (defScope s_cells_in_turn) := ⟨rfl, rfl, rfl, by decide +kernel, rfl, by decide +kernel, by decide +kernel⟩
def S_cells_in_turn : FS := fun ss Q E => match ss with
  | [.d _ (.int i), .d _ kd, .d _ (.int j)] => ∃ (s n : Nat) (K : Kd), i = (s : Nat) ∧ 1 ≤ s ∧ s ≤ 4096 ∧ kd = K.data ∧ K.ok ∧ j = (n : Nat) ∧ n ≤ 4294967295 ∧ ∀ k, Q (.fr k (.list ((List.range (2 * s)).map fun t => .int (cellN K s n t : Nat))))
  | _ => False
theorem f_cells_in_turn (T : Tx K mg) (F_step_of : DFn P w K mg base TT false 0 1 "step_of" ["size", "number"] S_step_of) : DFn P w K mg base TT false 0 2 "cells_in_turn" ["size", "kind", "number"] S_cells_in_turn := by
  refine dfn (N := ["size", "kind", "number", "step", "at", "home", "found", "far"]) T.ft_cells_in_turn sc_cells_in_turn (fun a cdv A out s H E C xc hg hT hr => by
    have F_step_of : DFn P w K mg base C.T false 0 1 "step_of" ["size", "number"] S_step_of := (by rw [hT]; exact F_step_of); have hr_step_of := hr.mono (show 1 ≤ 1 by decide); have gd_step_of : false = true → C.gd = true := fun h => (by cases h); exact (dss_cons (ds_par (de_bin dop_mod (de_var 2) (de_var 0)) (de_lst da_nil) 5 6 (hp := ps_par (by rfl) sc_cells_in_turn.nd rfl rfl (by decide) rfl rfl (pa_cons (de_bin dop_mod (de_var 2) (de_var 0)) (pa_cons (de_lst da_nil) pa_nil)) (by rfl)))
  (dss_cons (ds_set 3 sc_cells_in_turn.nd (de_if (dt_cmp (dop_eq xc) (de_ix xc (de_var 1) de_int) de_str) (de_ix xc (de_var 1) de_int) (de_call F_step_of xc gd_step_of hr_step_of (da_cons (de_var 0) (da_cons (de_var 2) da_nil)))))
  (dss_cons (ds_mark (ds_frz 3 (ds_for xc (di_rng1 xc T.b_range (de_bin dop_mul de_int (de_var 0))) (dg_name (vs := [0, 1, 2, 3, 4, 5, 6, 7]) 4 sc_cells_in_turn.nd)
  (dss_cons (ds_frz 3 (ds_set 7 sc_cells_in_turn.nd (de_bin dop_mul (de_var 3) (de_var 4))))
  (dss_cons (ds_if (dt_cmp (dop_eq xc) (de_ix xc (de_var 1) de_int) de_str)
  (dss_one (ds_set 7 sc_cells_in_turn.nd (de_bin dop_fdivX (de_bin dop_mul (de_var 4) (de_bin (dop_add xc) (de_var 4) de_int)) de_int)))
  (dss_one (ds_if (dt_cmp (dop_eq xc) (de_ix xc (de_var 1) de_int) de_str)
  (dss_one (ds_set 7 sc_cells_in_turn.nd (de_bin (dop_add xc) (de_bin dop_mul (de_ix xc (de_var 1) de_int) (de_var 4)) (de_bin dop_mul (de_bin dop_mul (de_ix xc (de_var 1) de_int) (de_var 4)) (de_var 4)))))
  dss_nil)))
  (dss_one (ds_frz 7 (ds_append 6 (de_bin dop_mod (de_bin (dop_add xc) (de_var 5) (de_var 7)) (de_var 0)) (hb := fun h => pe_bm PySem.F.plainAttrs_list PySem.F.slot_list_append PySem.F.type_list_append h (pv 6) (pa_cons (de_bin dop_mod (de_bin (dop_add xc) (de_var 5) (de_var 7)) (de_var 0)) pa_nil))))))))))
  (dss_one (ds_retV 6)))))) ?_
  intro ss Q E hl h
  unfold S_cells_in_turn at h
  split at h
  · rename_i k i k2 kd k3 j
    obtain ⟨s, n, K, rfl, s1, s2, rfl, ok, rfl, hn, h⟩ := h
    have s0 : ((s : Nat) : Int) ≠ 0 := by omega
    refine ⟨s0, ?_⟩
    cases K with
    | by_ a =>
      have ok : a ≤ 4095 := ok
      repeat (first | refine if_t (by decide) ?_ | refine if_f (by decide) ?_ | refine ⟨(_ : D), rfl, ?_⟩ | refine ⟨(_ : D), at0 _ _, ?_⟩ | refine ⟨trivial, ?_⟩ | refine ⟨rfl, ?_⟩ | refine ⟨.inr ⟨by omega, by omega⟩, ?_⟩ | refine ⟨.inl ⟨by omega, by omega⟩, ?_⟩ | refine ⟨(by omega : (_ : Prop)), ?_⟩ | refine ⟨(by decide +kernel : (_ : Prop)), (by decide +kernel : (_ : Prop)), ?_⟩)
      refine Mark.at (ρ' := [some (.d k (.int (s : Nat))), some (.d k2 (Kd.data (Kd.by_ a))), some (.d k3 (.int (n : Nat))), some (.d _ (.int (stN (Kd.by_ a) s n : Nat))), none, some (.d false (.int (n % s : Nat))), some (.own false (.list [])), none]) (by rw [← nat_fmod]; rfl) ?_
      refine ⟨.inl ⟨by decide, by decide⟩, ?_⟩
      refine ⟨by omega, by omega, ?_⟩
      refine for_ind (fun ss ρ => ∃ (j : Nat) (ks : Bool) (a4 a7 : Option SV), j ≤ 2 * s ∧ ss = (List.range' j (2 * s - j)).map (fun i => SV.d false (.int (0 + (i : Nat)))) ∧ ρ = [some (.d k (.int (s : Nat))), some (.d k2 (Kd.data (Kd.by_ a))), some (.d k3 (.int (n : Nat))), some (.d ks (.int (stN (Kd.by_ a) s n : Nat))), a4, some (.d false (.int (n % s : Nat))), some (.own false (.list ((List.range j).map fun t => .int (cellN (Kd.by_ a) s n t : Nat)))), a7]) ?_ ?_ _ _ ⟨0, _, none, none, by omega, by rw [show (2 * ((s : Nat) : Int)).toNat = 2 * s by omega, List.range_eq_range']; rfl, rfl⟩
      · rintro v r ρ ⟨j, ks, a4, a7, hj, hs, rfl⟩ J hJ
        obtain ⟨i, hi⟩ : ∃ i, 2 * s - j = i + 1 := by
          cases q : 2 * s - j with
          | zero => rw [q] at hs; cases hs
          | succ i => exact ⟨i, rfl⟩
        rw [hi, List.range'_succ, List.map_cons] at hs
        injection hs with hs1 hs2
        rw [Int.zero_add] at hs1
        subst hs1
        subst hs2
        have hJ' := fun far : Int => hJ [some (.d k (.int (s : Nat))), some (.d k2 (Kd.data (Kd.by_ a))), some (.d k3 (.int (n : Nat))), some (.d ks (.int (stN (Kd.by_ a) s n : Nat))), some (.d false (.int (j : Nat))), some (.d false (.int (n % s : Nat))), some (.own false (.list ((List.range (j + 1)).map fun t => .int (cellN (Kd.by_ a) s n t : Nat)))), some (.d false (.int far))] ⟨j + 1, ks, _, _, by omega, by rw [show 2 * s - (j + 1) = i by omega], rfl⟩
        rw [List.range_succ, List.map_append] at hJ'
        have fin : ∀ far : Nat, far = farN (Kd.by_ a) s n j → (((n % s : Nat) : Int) + (far : Nat)).fmod ((s : Nat) : Int) = (cellN (Kd.by_ a) s n j : Nat) := fun far e => by
          rw [← Int.natCast_add, nat_fmod, e]
          rfl
        have room : ((List.range j).map fun t => PyData.int (cellN (Kd.by_ a) s n t : Nat)).length < sizeLine := by rw [List.length_map, List.length_range, sizeLine_eq]; omega
        have smul : CMul ((stN (Kd.by_ a) s n : Nat) : Int) ((j : Nat) : Int) := .inr ⟨by omega, by omega⟩
        repeat (first | refine if_t (by decide) ?_ | refine if_f (by decide) ?_ | refine ⟨(_ : D), rfl, ?_⟩ | refine ⟨(_ : D), at0 _ _, ?_⟩ | refine ⟨trivial, ?_⟩ | refine ⟨rfl, ?_⟩ | refine ⟨.inr ⟨by omega, by omega⟩, ?_⟩ | refine ⟨.inl ⟨by omega, by omega⟩, ?_⟩ | refine ⟨(by omega : (_ : Prop)), ?_⟩ | refine ⟨(by decide +kernel : (_ : Prop)), (by decide +kernel : (_ : Prop)), ?_⟩)
        have e1 : ((stN (Kd.by_ a) s n : Nat) : Int) * ((j : Nat) : Int) = ((farN (Kd.by_ a) s n j : Nat) : Int) := by rw [← Int.natCast_mul]; rfl
        show J [_, _, _, _, _, _, some (.own false (.list (_ ++ [.int ((((n % s : Nat) : Int) + (((stN (Kd.by_ a) s n : Nat) : Int) * ((j : Nat) : Int))).fmod ((s : Nat) : Int))]))), some (.d false (.int (((stN (Kd.by_ a) s n : Nat) : Int) * ((j : Nat) : Int))))]
        rw [e1, fin _ rfl]
        exact hJ' _
      · rintro ρ ⟨j, ks, a4, a7, hj, hs, rfl⟩
        have e : j = 2 * s := by
          have := congrArg List.length hs
          simp at this
          omega
        subst e
        cases a4 <;> exact h false
    | tri =>
      repeat (first | refine if_t (by decide) ?_ | refine if_f (by decide) ?_ | refine ⟨(_ : D), rfl, ?_⟩ | refine ⟨(_ : D), at0 _ _, ?_⟩ | refine ⟨trivial, ?_⟩ | refine ⟨rfl, ?_⟩ | refine ⟨.inr ⟨by omega, by omega⟩, ?_⟩ | refine ⟨.inl ⟨by omega, by omega⟩, ?_⟩ | refine ⟨(by omega : (_ : Prop)), ?_⟩ | refine ⟨(by decide +kernel : (_ : Prop)), (by decide +kernel : (_ : Prop)), ?_⟩)
      refine ⟨s, n, rfl, rfl, s1, s2, ?_⟩
      refine Mark.at (ρ' := [some (.d k (.int (s : Nat))), some (.d k2 (Kd.data Kd.tri)), some (.d k3 (.int (n : Nat))), some (.d _ (.int (stN Kd.tri s n : Nat))), none, some (.d false (.int (n % s : Nat))), some (.own false (.list [])), none]) (by rw [← nat_fmod]; rfl) ?_
      refine ⟨.inl ⟨by decide, by decide⟩, ?_⟩
      refine ⟨by omega, by omega, ?_⟩
      refine for_ind (fun ss ρ => ∃ (j : Nat) (ks : Bool) (a4 a7 : Option SV), j ≤ 2 * s ∧ ss = (List.range' j (2 * s - j)).map (fun i => SV.d false (.int (0 + (i : Nat)))) ∧ ρ = [some (.d k (.int (s : Nat))), some (.d k2 (Kd.data Kd.tri)), some (.d k3 (.int (n : Nat))), some (.d ks (.int (stN Kd.tri s n : Nat))), a4, some (.d false (.int (n % s : Nat))), some (.own false (.list ((List.range j).map fun t => .int (cellN Kd.tri s n t : Nat)))), a7]) ?_ ?_ _ _ ⟨0, _, none, none, by omega, by rw [show (2 * ((s : Nat) : Int)).toNat = 2 * s by omega, List.range_eq_range']; rfl, rfl⟩
      · rintro v r ρ ⟨j, ks, a4, a7, hj, hs, rfl⟩ J hJ
        obtain ⟨i, hi⟩ : ∃ i, 2 * s - j = i + 1 := by
          cases q : 2 * s - j with
          | zero => rw [q] at hs; cases hs
          | succ i => exact ⟨i, rfl⟩
        rw [hi, List.range'_succ, List.map_cons] at hs
        injection hs with hs1 hs2
        rw [Int.zero_add] at hs1
        subst hs1
        subst hs2
        have hJ' := fun far : Int => hJ [some (.d k (.int (s : Nat))), some (.d k2 (Kd.data Kd.tri)), some (.d k3 (.int (n : Nat))), some (.d ks (.int (stN Kd.tri s n : Nat))), some (.d false (.int (j : Nat))), some (.d false (.int (n % s : Nat))), some (.own false (.list ((List.range (j + 1)).map fun t => .int (cellN Kd.tri s n t : Nat)))), some (.d false (.int far))] ⟨j + 1, ks, _, _, by omega, by rw [show 2 * s - (j + 1) = i by omega], rfl⟩
        rw [List.range_succ, List.map_append] at hJ'
        have fin : ∀ far : Nat, far = farN Kd.tri s n j → (((n % s : Nat) : Int) + (far : Nat)).fmod ((s : Nat) : Int) = (cellN Kd.tri s n j : Nat) := fun far e => by
          rw [← Int.natCast_add, nat_fmod, e]
          rfl
        have room : ((List.range j).map fun t => PyData.int (cellN Kd.tri s n t : Nat)).length < sizeLine := by rw [List.length_map, List.length_range, sizeLine_eq]; omega
        have smul : CMul ((stN Kd.tri s n : Nat) : Int) ((j : Nat) : Int) := .inr ⟨by omega, by omega⟩
        repeat (first | refine if_t (by decide) ?_ | refine if_f (by decide) ?_ | refine ⟨(_ : D), rfl, ?_⟩ | refine ⟨(_ : D), at0 _ _, ?_⟩ | refine ⟨trivial, ?_⟩ | refine ⟨rfl, ?_⟩ | refine ⟨.inr ⟨by omega, by omega⟩, ?_⟩ | refine ⟨.inl ⟨by omega, by omega⟩, ?_⟩ | refine ⟨(by omega : (_ : Prop)), ?_⟩ | refine ⟨(by decide +kernel : (_ : Prop)), (by decide +kernel : (_ : Prop)), ?_⟩)
        refine ⟨⟨by decide, by decide⟩, ?_⟩
        repeat (first | refine if_t (by decide) ?_ | refine if_f (by decide) ?_ | refine ⟨(_ : D), rfl, ?_⟩ | refine ⟨(_ : D), at0 _ _, ?_⟩ | refine ⟨trivial, ?_⟩ | refine ⟨rfl, ?_⟩ | refine ⟨.inr ⟨by omega, by omega⟩, ?_⟩ | refine ⟨.inl ⟨by omega, by omega⟩, ?_⟩ | refine ⟨(by omega : (_ : Prop)), ?_⟩ | refine ⟨(by decide +kernel : (_ : Prop)), (by decide +kernel : (_ : Prop)), ?_⟩)
        have e1 : ((j : Nat) : Int) * (((j : Nat) : Int) + 1) / 2 = ((farN Kd.tri s n j : Nat) : Int) := by show _ = ((j * (j + 1) / 2 : Nat) : Int); rw [Int.natCast_ediv, Int.natCast_mul, Int.natCast_add]; rfl
        show J [_, _, _, _, _, _, some (.own false (.list (_ ++ [.int ((((n % s : Nat) : Int) + (((j : Nat) : Int) * (((j : Nat) : Int) + 1) / 2)).fmod ((s : Nat) : Int))]))), some (.d false (.int (((j : Nat) : Int) * (((j : Nat) : Int) + 1) / 2)))]
        rw [e1, fin _ rfl]
        exact hJ' _
      · rintro ρ ⟨j, ks, a4, a7, hj, hs, rfl⟩
        have e : j = 2 * s := by
          have := congrArg List.length hs
          simp at this
          omega
        subst e
        cases a4 <;> exact h false
    | sq b c =>
      obtain ⟨ok1, ok2⟩ : b ≤ 4095 ∧ c ≤ 4095 := ok
      repeat (first | refine if_t (by decide) ?_ | refine if_f (by decide) ?_ | refine ⟨(_ : D), rfl, ?_⟩ | refine ⟨(_ : D), at0 _ _, ?_⟩ | refine ⟨trivial, ?_⟩ | refine ⟨rfl, ?_⟩ | refine ⟨.inr ⟨by omega, by omega⟩, ?_⟩ | refine ⟨.inl ⟨by omega, by omega⟩, ?_⟩ | refine ⟨(by omega : (_ : Prop)), ?_⟩ | refine ⟨(by decide +kernel : (_ : Prop)), (by decide +kernel : (_ : Prop)), ?_⟩)
      refine ⟨s, n, rfl, rfl, s1, s2, ?_⟩
      refine Mark.at (ρ' := [some (.d k (.int (s : Nat))), some (.d k2 (Kd.data (Kd.sq b c))), some (.d k3 (.int (n : Nat))), some (.d _ (.int (stN (Kd.sq b c) s n : Nat))), none, some (.d false (.int (n % s : Nat))), some (.own false (.list [])), none]) (by rw [← nat_fmod]; rfl) ?_
      refine ⟨.inl ⟨by decide, by decide⟩, ?_⟩
      refine ⟨by omega, by omega, ?_⟩
      refine for_ind (fun ss ρ => ∃ (j : Nat) (ks : Bool) (a4 a7 : Option SV), j ≤ 2 * s ∧ ss = (List.range' j (2 * s - j)).map (fun i => SV.d false (.int (0 + (i : Nat)))) ∧ ρ = [some (.d k (.int (s : Nat))), some (.d k2 (Kd.data (Kd.sq b c))), some (.d k3 (.int (n : Nat))), some (.d ks (.int (stN (Kd.sq b c) s n : Nat))), a4, some (.d false (.int (n % s : Nat))), some (.own false (.list ((List.range j).map fun t => .int (cellN (Kd.sq b c) s n t : Nat)))), a7]) ?_ ?_ _ _ ⟨0, _, none, none, by omega, by rw [show (2 * ((s : Nat) : Int)).toNat = 2 * s by omega, List.range_eq_range']; rfl, rfl⟩
      · rintro v r ρ ⟨j, ks, a4, a7, hj, hs, rfl⟩ J hJ
        obtain ⟨i, hi⟩ : ∃ i, 2 * s - j = i + 1 := by
          cases q : 2 * s - j with
          | zero => rw [q] at hs; cases hs
          | succ i => exact ⟨i, rfl⟩
        rw [hi, List.range'_succ, List.map_cons] at hs
        injection hs with hs1 hs2
        rw [Int.zero_add] at hs1
        subst hs1
        subst hs2
        have hJ' := fun far : Int => hJ [some (.d k (.int (s : Nat))), some (.d k2 (Kd.data (Kd.sq b c))), some (.d k3 (.int (n : Nat))), some (.d ks (.int (stN (Kd.sq b c) s n : Nat))), some (.d false (.int (j : Nat))), some (.d false (.int (n % s : Nat))), some (.own false (.list ((List.range (j + 1)).map fun t => .int (cellN (Kd.sq b c) s n t : Nat)))), some (.d false (.int far))] ⟨j + 1, ks, _, _, by omega, by rw [show 2 * s - (j + 1) = i by omega], rfl⟩
        rw [List.range_succ, List.map_append] at hJ'
        have fin : ∀ far : Nat, far = farN (Kd.sq b c) s n j → (((n % s : Nat) : Int) + (far : Nat)).fmod ((s : Nat) : Int) = (cellN (Kd.sq b c) s n j : Nat) := fun far e => by
          rw [← Int.natCast_add, nat_fmod, e]
          rfl
        have room : ((List.range j).map fun t => PyData.int (cellN (Kd.sq b c) s n t : Nat)).length < sizeLine := by rw [List.length_map, List.length_range, sizeLine_eq]; omega
        have smul : CMul ((stN (Kd.sq b c) s n : Nat) : Int) ((j : Nat) : Int) := .inr ⟨by omega, by omega⟩
        repeat (first | refine if_t (by decide) ?_ | refine if_f (by decide) ?_ | refine ⟨(_ : D), rfl, ?_⟩ | refine ⟨(_ : D), at0 _ _, ?_⟩ | refine ⟨trivial, ?_⟩ | refine ⟨rfl, ?_⟩ | refine ⟨.inr ⟨by omega, by omega⟩, ?_⟩ | refine ⟨.inl ⟨by omega, by omega⟩, ?_⟩ | refine ⟨(by omega : (_ : Prop)), ?_⟩ | refine ⟨(by decide +kernel : (_ : Prop)), (by decide +kernel : (_ : Prop)), ?_⟩)
        have e1 : ((b : Nat) : Int) * ((j : Nat) : Int) + ((c : Nat) : Int) * ((j : Nat) : Int) * ((j : Nat) : Int) = ((farN (Kd.sq b c) s n j : Nat) : Int) := by show _ = ((b * j + c * j * j : Nat) : Int); rw [Int.natCast_add, Int.natCast_mul, Int.natCast_mul, Int.natCast_mul]
        show J [_, _, _, _, _, _, some (.own false (.list (_ ++ [.int ((((n % s : Nat) : Int) + (((b : Nat) : Int) * ((j : Nat) : Int) + ((c : Nat) : Int) * ((j : Nat) : Int) * ((j : Nat) : Int))).fmod ((s : Nat) : Int))]))), some (.d false (.int (((b : Nat) : Int) * ((j : Nat) : Int) + ((c : Nat) : Int) * ((j : Nat) : Int) * ((j : Nat) : Int))))]
        rw [e1, fin _ rfl]
        exact hJ' _
      · rintro ρ ⟨j, ks, a4, a7, hj, hs, rfl⟩
        have e : j = 2 * s := by
          have := congrArg List.length hs
          simp at this
          omega
        subst e
        cases a4 <;> exact h false
    | own =>
      repeat (first | refine if_t (by decide) ?_ | refine if_f (by decide) ?_ | refine ⟨(_ : D), rfl, ?_⟩ | refine ⟨(_ : D), at0 _ _, ?_⟩ | refine ⟨trivial, ?_⟩ | refine ⟨rfl, ?_⟩ | refine ⟨.inr ⟨by omega, by omega⟩, ?_⟩ | refine ⟨.inl ⟨by omega, by omega⟩, ?_⟩ | refine ⟨(by omega : (_ : Prop)), ?_⟩ | refine ⟨(by decide +kernel : (_ : Prop)), (by decide +kernel : (_ : Prop)), ?_⟩)
      refine ⟨s, n, rfl, rfl, s1, s2, ?_⟩
      refine Mark.at (ρ' := [some (.d k (.int (s : Nat))), some (.d k2 (Kd.data Kd.own)), some (.d k3 (.int (n : Nat))), some (.d _ (.int (stN Kd.own s n : Nat))), none, some (.d false (.int (n % s : Nat))), some (.own false (.list [])), none]) (by rw [← nat_fmod]; rfl) ?_
      refine ⟨.inl ⟨by decide, by decide⟩, ?_⟩
      refine ⟨by omega, by omega, ?_⟩
      refine for_ind (fun ss ρ => ∃ (j : Nat) (ks : Bool) (a4 a7 : Option SV), j ≤ 2 * s ∧ ss = (List.range' j (2 * s - j)).map (fun i => SV.d false (.int (0 + (i : Nat)))) ∧ ρ = [some (.d k (.int (s : Nat))), some (.d k2 (Kd.data Kd.own)), some (.d k3 (.int (n : Nat))), some (.d ks (.int (stN Kd.own s n : Nat))), a4, some (.d false (.int (n % s : Nat))), some (.own false (.list ((List.range j).map fun t => .int (cellN Kd.own s n t : Nat)))), a7]) ?_ ?_ _ _ ⟨0, _, none, none, by omega, by rw [show (2 * ((s : Nat) : Int)).toNat = 2 * s by omega, List.range_eq_range']; rfl, rfl⟩
      · rintro v r ρ ⟨j, ks, a4, a7, hj, hs, rfl⟩ J hJ
        obtain ⟨i, hi⟩ : ∃ i, 2 * s - j = i + 1 := by
          cases q : 2 * s - j with
          | zero => rw [q] at hs; cases hs
          | succ i => exact ⟨i, rfl⟩
        rw [hi, List.range'_succ, List.map_cons] at hs
        injection hs with hs1 hs2
        rw [Int.zero_add] at hs1
        subst hs1
        subst hs2
        have hJ' := fun far : Int => hJ [some (.d k (.int (s : Nat))), some (.d k2 (Kd.data Kd.own)), some (.d k3 (.int (n : Nat))), some (.d ks (.int (stN Kd.own s n : Nat))), some (.d false (.int (j : Nat))), some (.d false (.int (n % s : Nat))), some (.own false (.list ((List.range (j + 1)).map fun t => .int (cellN Kd.own s n t : Nat)))), some (.d false (.int far))] ⟨j + 1, ks, _, _, by omega, by rw [show 2 * s - (j + 1) = i by omega], rfl⟩
        rw [List.range_succ, List.map_append] at hJ'
        have fin : ∀ far : Nat, far = farN Kd.own s n j → (((n % s : Nat) : Int) + (far : Nat)).fmod ((s : Nat) : Int) = (cellN Kd.own s n j : Nat) := fun far e => by
          rw [← Int.natCast_add, nat_fmod, e]
          rfl
        have room : ((List.range j).map fun t => PyData.int (cellN Kd.own s n t : Nat)).length < sizeLine := by rw [List.length_map, List.length_range, sizeLine_eq]; omega
        have smul : CMul ((stN Kd.own s n : Nat) : Int) ((j : Nat) : Int) := .inr ⟨by omega, by omega⟩
        repeat (first | refine if_t (by decide) ?_ | refine if_f (by decide) ?_ | refine ⟨(_ : D), rfl, ?_⟩ | refine ⟨(_ : D), at0 _ _, ?_⟩ | refine ⟨trivial, ?_⟩ | refine ⟨rfl, ?_⟩ | refine ⟨.inr ⟨by omega, by omega⟩, ?_⟩ | refine ⟨.inl ⟨by omega, by omega⟩, ?_⟩ | refine ⟨(by omega : (_ : Prop)), ?_⟩ | refine ⟨(by decide +kernel : (_ : Prop)), (by decide +kernel : (_ : Prop)), ?_⟩)
        have e1 : ((stN Kd.own s n : Nat) : Int) * ((j : Nat) : Int) = ((farN Kd.own s n j : Nat) : Int) := by rw [← Int.natCast_mul]; rfl
        show J [_, _, _, _, _, _, some (.own false (.list (_ ++ [.int ((((n % s : Nat) : Int) + (((stN Kd.own s n : Nat) : Int) * ((j : Nat) : Int))).fmod ((s : Nat) : Int))]))), some (.d false (.int (((stN Kd.own s n : Nat) : Int) * ((j : Nat) : Int))))]
        rw [e1, fin _ rfl]
        exact hJ' _
      · rintro ρ ⟨j, ks, a4, a7, hj, hs, rfl⟩
        have e : j = 2 * s := by
          have := congrArg List.length hs
          simp at this
          omega
        subst e
        cases a4 <;> exact h false
  · exact h.elim
abbrev s_row_at : Stmt := top 30
theorem sc_row_at : FnScope ["size", "kind", "key", "cell"] ["size", "kind", "key"] (defScope s_row_at) := ⟨rfl, rfl, rfl, by decide +kernel, rfl, by decide +kernel, by decide +kernel⟩
def S_row_at : FS := fun ss Q E => match ss with
  | [.d _ (.int i), .d _ kd, .d _ key] => ∃ (s n : Nat) (K : Kd) (x : Str), i = (s : Nat) ∧ 1 ≤ s ∧ s ≤ 4096 ∧ kd = K.data ∧ K.ok ∧ key = keyD x n ∧ x ∈ NMS ∧ n ≤ 4294967295 ∧ Q (.fr true (.tuple ((rowN K s n).map fun x => .int (x : Nat))))
  | _ => False
theorem f_row_at (T : Tx K mg) (F_cells_in_turn : DFn P w K mg base TT false 0 2 "cells_in_turn" ["size", "kind", "number"] S_cells_in_turn) : DFn P w K mg base TT false 0 3 "row_at" ["size", "kind", "key"] S_row_at := by
  refine dfn (N := ["size", "kind", "key", "cell"]) T.ft_row_at sc_row_at (fun a cdv A out s H E C xc hg hT hr => by
    have F_cells_in_turn : DFn P w K mg base C.T false 0 2 "cells_in_turn" ["size", "kind", "number"] S_cells_in_turn := (by rw [hT]; exact F_cells_in_turn); have hr_cells_in_turn := hr.mono (show 2 ≤ 2 by decide); have gd_cells_in_turn : false = true → C.gd = true := fun h => (by cases h); exact (dss_cons (ds_if (dt_cmp (dop_eq xc) (de_ix xc (de_var 1) de_int) de_str)
  (dss_one (ds_ret de_never))
  dss_nil)
  (dss_one (ds_ret (de_t1 (dcall_tupleX xc) T.b_tuple boot_tuple (de_dcK (own := [("cell", 3)]) xc sc_row_at.nd (di_or (di_list xc (de_call F_cells_in_turn xc gd_cells_in_turn hr_cells_in_turn (da_cons (de_var 0) (da_cons (de_var 1) (da_cons (de_ix xc (de_var 2) de_int) da_nil))))) (di_tup xc (de_call F_cells_in_turn xc gd_cells_in_turn hr_cells_in_turn (da_cons (de_var 0) (da_cons (de_var 1) (da_cons (de_ix xc (de_var 2) de_int) da_nil)))))) (blkOk_by (own := [("cell", 3)]) (N := ["size", "kind", "key", "cell"]) (sc := defScope s_row_at) (by decide +kernel)) (fun _ _ _ _ _ => (dg_name (vs := ([("cell", 3)] : List (Str × Nat)).map (·.2)) 3 sc_row_at.nd)) (fun _ _ _ _ _ => dts_nil) (fun _ _ _ _ _ => (de_var 3)) (fun _ _ _ _ _ => de_bool)) xc))))) ?_
  intro ss Q E hl h
  unfold S_row_at at h
  split at h
  · rename_i k i k2 kd k3 key
    obtain ⟨s, n, K, xn, rfl, s1, s2, rfl, ok, rfl, hx, hn, h⟩ := h
    cases K with
    | by_ a =>
      repeat (first | refine if_t (by decide) ?_ | refine if_f (by decide) ?_ | refine ⟨(_ : D), rfl, ?_⟩ | refine ⟨(_ : D), at0 _ _, ?_⟩ | refine ⟨trivial, ?_⟩ | refine ⟨rfl, ?_⟩ | refine ⟨.inr ⟨by omega, by omega⟩, ?_⟩ | refine ⟨.inl ⟨by omega, by omega⟩, ?_⟩ | refine ⟨(by omega : (_ : Prop)), ?_⟩ | refine ⟨(by decide +kernel : (_ : Prop)), (by decide +kernel : (_ : Prop)), ?_⟩)
      refine .inl ?_
      refine ⟨_, rfl, ?_⟩
      refine ⟨s, n, (Kd.by_ a), rfl, s1, s2, rfl, ok, rfl, hn, fun kk => ?_⟩
      refine dcK_ind (fun ss k acc => k = false ∧ ∃ u w : List Nat, ss = w.map (fun t => SV.d kk (.int (cellN (Kd.by_ a) s n t : Nat))) ∧ acc = (((u.map (cellN (Kd.by_ a) s n))).foldl rowStep []).map cellD ∧ u ++ w = List.range (2 * s)) ?_ ?_ _ _ _ ⟨rfl, [], List.range (2 * s), by rw [List.map_map]; rfl, rfl, rfl⟩
      · rintro v t k4 acc ⟨rfl, u, w, hs, rfl, he⟩ J hJ
        cases w with
        | nil => cases hs
        | cons x w =>
          injection hs with hs1 hs2
          subst hs1; subst hs2
          refine ⟨.inl _, rfl, ?_⟩
          refine hJ _ _ ⟨rfl, u ++ [x], w, rfl, ?_, by rw [← he, List.append_assoc]; rfl⟩
          rw [List.map_append, List.foldl_append]
          exact put_row _ _
      · rintro k4 acc ⟨rfl, u, w, hs, rfl, he⟩
        have hb : w = [] := by
          cases w with
          | nil => rfl
          | cons x w => cases hs
        subst hb
        rw [List.append_nil] at he
        subst he
        have rl := row_len (Kd.by_ a) s n
        refine ⟨?_, fun z => row_ne (Kd.by_ a) n s1 (List.map_eq_nil_iff.mp z), ?_, ?_⟩
        · show ((rowN (Kd.by_ a) s n).map cellD).all _ = true
          rw [List.all_map]
          exact List.all_eq_true.mpr fun x _ => rfl
        · show ((rowN (Kd.by_ a) s n).map cellD).length ≤ _
          rw [List.length_map, sizeLine_eq]; omega
        · have e : ((rowN (Kd.by_ a) s n).map cellD).map (·.1) = (rowN (Kd.by_ a) s n).map fun x => PyData.int (x : Nat) := by rw [List.map_map]; rfl
          rw [← e] at h
          exact h
    | tri =>
      repeat (first | refine if_t (by decide) ?_ | refine if_f (by decide) ?_ | refine ⟨(_ : D), rfl, ?_⟩ | refine ⟨(_ : D), at0 _ _, ?_⟩ | refine ⟨trivial, ?_⟩ | refine ⟨rfl, ?_⟩ | refine ⟨.inr ⟨by omega, by omega⟩, ?_⟩ | refine ⟨.inl ⟨by omega, by omega⟩, ?_⟩ | refine ⟨(by omega : (_ : Prop)), ?_⟩ | refine ⟨(by decide +kernel : (_ : Prop)), (by decide +kernel : (_ : Prop)), ?_⟩)
      refine .inl ?_
      refine ⟨_, rfl, ?_⟩
      refine ⟨s, n, Kd.tri, rfl, s1, s2, rfl, ok, rfl, hn, fun kk => ?_⟩
      refine dcK_ind (fun ss k acc => k = false ∧ ∃ u w : List Nat, ss = w.map (fun t => SV.d kk (.int (cellN Kd.tri s n t : Nat))) ∧ acc = (((u.map (cellN Kd.tri s n))).foldl rowStep []).map cellD ∧ u ++ w = List.range (2 * s)) ?_ ?_ _ _ _ ⟨rfl, [], List.range (2 * s), by rw [List.map_map]; rfl, rfl, rfl⟩
      · rintro v t k4 acc ⟨rfl, u, w, hs, rfl, he⟩ J hJ
        cases w with
        | nil => cases hs
        | cons x w =>
          injection hs with hs1 hs2
          subst hs1; subst hs2
          refine ⟨.inl _, rfl, ?_⟩
          refine hJ _ _ ⟨rfl, u ++ [x], w, rfl, ?_, by rw [← he, List.append_assoc]; rfl⟩
          rw [List.map_append, List.foldl_append]
          exact put_row _ _
      · rintro k4 acc ⟨rfl, u, w, hs, rfl, he⟩
        have hb : w = [] := by
          cases w with
          | nil => rfl
          | cons x w => cases hs
        subst hb
        rw [List.append_nil] at he
        subst he
        have rl := row_len Kd.tri s n
        refine ⟨?_, fun z => row_ne Kd.tri n s1 (List.map_eq_nil_iff.mp z), ?_, ?_⟩
        · show ((rowN Kd.tri s n).map cellD).all _ = true
          rw [List.all_map]
          exact List.all_eq_true.mpr fun x _ => rfl
        · show ((rowN Kd.tri s n).map cellD).length ≤ _
          rw [List.length_map, sizeLine_eq]; omega
        · have e : ((rowN Kd.tri s n).map cellD).map (·.1) = (rowN Kd.tri s n).map fun x => PyData.int (x : Nat) := by rw [List.map_map]; rfl
          rw [← e] at h
          exact h
    | sq b c =>
      repeat (first | refine if_t (by decide) ?_ | refine if_f (by decide) ?_ | refine ⟨(_ : D), rfl, ?_⟩ | refine ⟨(_ : D), at0 _ _, ?_⟩ | refine ⟨trivial, ?_⟩ | refine ⟨rfl, ?_⟩ | refine ⟨.inr ⟨by omega, by omega⟩, ?_⟩ | refine ⟨.inl ⟨by omega, by omega⟩, ?_⟩ | refine ⟨(by omega : (_ : Prop)), ?_⟩ | refine ⟨(by decide +kernel : (_ : Prop)), (by decide +kernel : (_ : Prop)), ?_⟩)
      refine .inl ?_
      refine ⟨_, rfl, ?_⟩
      refine ⟨s, n, (Kd.sq b c), rfl, s1, s2, rfl, ok, rfl, hn, fun kk => ?_⟩
      refine dcK_ind (fun ss k acc => k = false ∧ ∃ u w : List Nat, ss = w.map (fun t => SV.d kk (.int (cellN (Kd.sq b c) s n t : Nat))) ∧ acc = (((u.map (cellN (Kd.sq b c) s n))).foldl rowStep []).map cellD ∧ u ++ w = List.range (2 * s)) ?_ ?_ _ _ _ ⟨rfl, [], List.range (2 * s), by rw [List.map_map]; rfl, rfl, rfl⟩
      · rintro v t k4 acc ⟨rfl, u, w, hs, rfl, he⟩ J hJ
        cases w with
        | nil => cases hs
        | cons x w =>
          injection hs with hs1 hs2
          subst hs1; subst hs2
          refine ⟨.inl _, rfl, ?_⟩
          refine hJ _ _ ⟨rfl, u ++ [x], w, rfl, ?_, by rw [← he, List.append_assoc]; rfl⟩
          rw [List.map_append, List.foldl_append]
          exact put_row _ _
      · rintro k4 acc ⟨rfl, u, w, hs, rfl, he⟩
        have hb : w = [] := by
          cases w with
          | nil => rfl
          | cons x w => cases hs
        subst hb
        rw [List.append_nil] at he
        subst he
        have rl := row_len (Kd.sq b c) s n
        refine ⟨?_, fun z => row_ne (Kd.sq b c) n s1 (List.map_eq_nil_iff.mp z), ?_, ?_⟩
        · show ((rowN (Kd.sq b c) s n).map cellD).all _ = true
          rw [List.all_map]
          exact List.all_eq_true.mpr fun x _ => rfl
        · show ((rowN (Kd.sq b c) s n).map cellD).length ≤ _
          rw [List.length_map, sizeLine_eq]; omega
        · have e : ((rowN (Kd.sq b c) s n).map cellD).map (·.1) = (rowN (Kd.sq b c) s n).map fun x => PyData.int (x : Nat) := by rw [List.map_map]; rfl
          rw [← e] at h
          exact h
    | own =>
      repeat (first | refine if_t (by decide) ?_ | refine if_f (by decide) ?_ | refine ⟨(_ : D), rfl, ?_⟩ | refine ⟨(_ : D), at0 _ _, ?_⟩ | refine ⟨trivial, ?_⟩ | refine ⟨rfl, ?_⟩ | refine ⟨.inr ⟨by omega, by omega⟩, ?_⟩ | refine ⟨.inl ⟨by omega, by omega⟩, ?_⟩ | refine ⟨(by omega : (_ : Prop)), ?_⟩ | refine ⟨(by decide +kernel : (_ : Prop)), (by decide +kernel : (_ : Prop)), ?_⟩)
      refine .inl ?_
      refine ⟨_, rfl, ?_⟩
      refine ⟨s, n, Kd.own, rfl, s1, s2, rfl, ok, rfl, hn, fun kk => ?_⟩
      refine dcK_ind (fun ss k acc => k = false ∧ ∃ u w : List Nat, ss = w.map (fun t => SV.d kk (.int (cellN Kd.own s n t : Nat))) ∧ acc = (((u.map (cellN Kd.own s n))).foldl rowStep []).map cellD ∧ u ++ w = List.range (2 * s)) ?_ ?_ _ _ _ ⟨rfl, [], List.range (2 * s), by rw [List.map_map]; rfl, rfl, rfl⟩
      · rintro v t k4 acc ⟨rfl, u, w, hs, rfl, he⟩ J hJ
        cases w with
        | nil => cases hs
        | cons x w =>
          injection hs with hs1 hs2
          subst hs1; subst hs2
          refine ⟨.inl _, rfl, ?_⟩
          refine hJ _ _ ⟨rfl, u ++ [x], w, rfl, ?_, by rw [← he, List.append_assoc]; rfl⟩
          rw [List.map_append, List.foldl_append]
          exact put_row _ _
      · rintro k4 acc ⟨rfl, u, w, hs, rfl, he⟩
        have hb : w = [] := by
          cases w with
          | nil => rfl
          | cons x w => cases hs
        subst hb
        rw [List.append_nil] at he
        subst he
        have rl := row_len Kd.own s n
        refine ⟨?_, fun z => row_ne Kd.own n s1 (List.map_eq_nil_iff.mp z), ?_, ?_⟩
        · show ((rowN Kd.own s n).map cellD).all _ = true
          rw [List.all_map]
          exact List.all_eq_true.mpr fun x _ => rfl
        · show ((rowN Kd.own s n).map cellD).length ≤ _
          rw [List.length_map, sizeLine_eq]; omega
        · have e : ((rowN Kd.own s n).map cellD).map (·.1) = (rowN Kd.own s n).map fun x => PyData.int (x : Nat) := by rw [List.map_map]; rfl
          rw [← e] at h
          exact h
  · exact h.elim
abbrev s_has_row : Stmt := top 31
theorem sc_has_row : FnScope ["kind", "key"] ["kind", "key"] (defScope s_has_row) := ⟨rfl, rfl, rfl, by decide +kernel, rfl, by decide +kernel, by decide +kernel⟩
def S_has_row : FS := fun ss Q E => match ss with
  | [.d _ kd, .d _ _] => ∃ K : Kd, kd = K.data ∧ Q (.d false (.bool true))
  | _ => False
theorem f_has_row (T : Tx K mg) : DFn P w K mg base TT false 0 1 "has_row" ["kind", "key"] S_has_row := by
  refine dfn (N := ["kind", "key"]) T.ft_has_row sc_has_row (fun a cdv A out s H E C xc hg hT hr => by
    exact (dss_one (ds_ret (de_or (de_cmp (dop_ne xc) (de_ix xc (de_var 0) de_int) de_str) (de_one de_never))))) ?_
  intro ss Q E hl h
  unfold S_has_row at h
  split at h
  · rename_i k kd k2 z
    obtain ⟨K, rfl, h⟩ := h
    cases K <;> exact ⟨(_ : D), rfl, rfl, h⟩
  · exact h.elim
abbrev s_need_rows : Stmt := top 32
theorem sc_need_rows : FnScope ["kind", "lot", "key"] ["kind", "lot"] (defScope s_need_rows) := ⟨rfl, rfl, rfl, by decide +kernel, rfl, by decide +kernel, by decide +kernel⟩
def S_need_rows : FS := fun ss Q E => match ss with
  | [.d _ kd, .d _ lot] => ∃ (K : Kd) (d : D), kd = K.data ∧ lot = .tuple [d] ∧ Q (.d false .none)
  | _ => False
theorem f_need_rows (T : Tx K mg) (F_has_row : DFn P w K mg base TT false 0 1 "has_row" ["kind", "key"] S_has_row) : DFn P w K mg base TT false 0 2 "need_rows" ["kind", "lot"] S_need_rows := by
  refine dfn (N := ["kind", "lot", "key"]) T.ft_need_rows sc_need_rows (fun a cdv A out s H E C xc hg hT hr => by
    have F_has_row : DFn P w K mg base C.T false 0 1 "has_row" ["kind", "key"] S_has_row := (by rw [hT]; exact F_has_row); have hr_has_row := hr.mono (show 1 ≤ 1 by decide); have gd_has_row : false = true → C.gd = true := fun h => (by cases h); exact (dss_one (ds_for xc (di_or (di_list xc (de_var 1)) (di_tup xc (de_var 1))) (dg_name (vs := [0, 1, 2]) 2 sc_need_rows.nd)
  (dss_one (ds_if (dt_not (dt_val (de_call F_has_row xc gd_has_row hr_has_row (da_cons (de_var 0) (da_cons (de_var 2) da_nil)))))
  (dss_one ds_never)
  dss_nil))))) ?_
  intro ss Q E hl h
  unfold S_need_rows at h
  split at h
  · rename_i k kd k2 z
    obtain ⟨K, d, rfl, rfl, h⟩ := h
    refine .inr ?_
    refine ⟨K, rfl, ?_⟩
    exact h
  · exact h.elim
abbrev s_need_row_of : Stmt := top 33
theorem sc_need_row_of : FnScope ["size", "kind", "key"] ["size", "kind", "key"] (defScope s_need_row_of) := ⟨rfl, rfl, rfl, by decide +kernel, rfl, by decide +kernel, by decide +kernel⟩
def S_need_row_of : FS := fun ss Q E => match ss with
  | [.d _ z, .d _ kd, .d _ key] => ∃ (s n : Nat) (K : Kd) (x : Str), z = .int (s : Nat) ∧ 1 ≤ s ∧ s ≤ 4096 ∧ kd = K.data ∧ K.ok ∧ key = keyD x n ∧ x ∈ NMS ∧ n ≤ 4294967295 ∧ Q (.d false .none)
  | _ => False
theorem f_need_row_of (T : Tx K mg) (F_need_size : DFn P w K mg base TT false 0 2 "need_size" ["size"] S_need_size) (F_need_kind : DFn P w K mg base TT false 0 4 "need_kind" ["size", "kind"] S_need_kind) (F_need_key : DFn P w K mg base TT false 0 3 "need_key" ["key"] S_need_key) (F_need_rows : DFn P w K mg base TT false 0 2 "need_rows" ["kind", "lot"] S_need_rows) : DFn P w K mg base TT false 0 5 "need_row_of" ["size", "kind", "key"] S_need_row_of := by
  refine dfn (N := ["size", "kind", "key"]) T.ft_need_row_of sc_need_row_of (fun a cdv A out s H E C xc hg hT hr => by
    have F_need_size : DFn P w K mg base C.T false 0 2 "need_size" ["size"] S_need_size := (by rw [hT]; exact F_need_size); have F_need_kind : DFn P w K mg base C.T false 0 4 "need_kind" ["size", "kind"] S_need_kind := (by rw [hT]; exact F_need_kind); have F_need_key : DFn P w K mg base C.T false 0 3 "need_key" ["key"] S_need_key := (by rw [hT]; exact F_need_key); have F_need_rows : DFn P w K mg base C.T false 0 2 "need_rows" ["kind", "lot"] S_need_rows := (by rw [hT]; exact F_need_rows); have hr_need_size := hr.mono (show 2 ≤ 4 by decide); have gd_need_size : false = true → C.gd = true := fun h => (by cases h); have hr_need_kind := hr.mono (show 4 ≤ 4 by decide); have gd_need_kind : false = true → C.gd = true := fun h => (by cases h); have hr_need_key := hr.mono (show 3 ≤ 4 by decide); have gd_need_key : false = true → C.gd = true := fun h => (by cases h); have hr_need_rows := hr.mono (show 2 ≤ 4 by decide); have gd_need_rows : false = true → C.gd = true := fun h => (by cases h); exact (dss_cons (ds_expr (de_call F_need_size xc gd_need_size hr_need_size (da_cons (de_var 0) da_nil)))
  (dss_cons (ds_expr (de_call F_need_kind xc gd_need_kind hr_need_kind (da_cons (de_var 0) (da_cons (de_var 1) da_nil))))
  (dss_cons (ds_expr (de_call F_need_key xc gd_need_key hr_need_key (da_cons (de_var 2) da_nil)))
  (dss_one (ds_expr (de_call F_need_rows xc gd_need_rows hr_need_rows (da_cons (de_var 1) (da_cons (de_tup (da_cons (de_var 2) da_nil)) da_nil))))))))) ?_
  intro ss Q E hl h
  unfold S_need_row_of at h
  split at h
  · rename_i k z k2 kd k3 key
    obtain ⟨s, n, K, x, rfl, s1, s2, rfl, ok, rfl, hx, hn, h⟩ := h
    refine .inl ⟨whole_yes (by omega) (by omega), ?_⟩
    refine ⟨K, rfl, ok, ?_⟩
    refine ⟨n, x, rfl, hx, hn, ?_⟩
    exact ⟨K, _, rfl, rfl, h⟩
  · exact h.elim
abbrev s_row_of : Stmt := top 34
theorem sc_row_of : FnScope ["size", "kind", "key"] ["size", "kind", "key"] (defScope s_row_of) := ⟨rfl, rfl, rfl, by decide +kernel, rfl, by decide +kernel, by decide +kernel⟩
def S_row_of : FS := fun ss Q E => match ss with
  | [.d _ z, .d _ kd, .d _ key] => ∃ (s n : Nat) (K : Kd) (x : Str), z = .int (s : Nat) ∧ 1 ≤ s ∧ s ≤ 4096 ∧ kd = K.data ∧ K.ok ∧ key = keyD x n ∧ x ∈ NMS ∧ n ≤ 4294967295 ∧ Q (.fr true (.tuple ((rowN K s n).map fun x => .int (x : Nat))))
  | _ => False
theorem f_row_of (T : Tx K mg) (F_need_row_of : DFn P w K mg base TT false 0 5 "need_row_of" ["size", "kind", "key"] S_need_row_of) (F_row_at : DFn P w K mg base TT false 0 3 "row_at" ["size", "kind", "key"] S_row_at) : DFn P w K mg base TT false 0 6 "row_of" ["size", "kind", "key"] S_row_of := by
  refine dfn (N := ["size", "kind", "key"]) T.ft_row_of sc_row_of (fun a cdv A out s H E C xc hg hT hr => by
    have F_need_row_of : DFn P w K mg base C.T false 0 5 "need_row_of" ["size", "kind", "key"] S_need_row_of := (by rw [hT]; exact F_need_row_of); have F_row_at : DFn P w K mg base C.T false 0 3 "row_at" ["size", "kind", "key"] S_row_at := (by rw [hT]; exact F_row_at); have hr_need_row_of := hr.mono (show 5 ≤ 5 by decide); have gd_need_row_of : false = true → C.gd = true := fun h => (by cases h); have hr_row_at := hr.mono (show 3 ≤ 5 by decide); have gd_row_at : false = true → C.gd = true := fun h => (by cases h); exact (dss_cons (ds_expr (de_call F_need_row_of xc gd_need_row_of hr_need_row_of (da_cons (de_var 0) (da_cons (de_var 1) (da_cons (de_var 2) da_nil)))))
  (dss_one (ds_ret (de_call F_row_at xc gd_row_at hr_row_at (da_cons (de_var 0) (da_cons (de_var 1) (da_cons (de_var 2) da_nil)))))))) ?_
  intro ss Q E hl h
  unfold S_row_of at h
  split at h
  · rename_i k z k2 kd k3 key
    obtain ⟨s, n, K, x, rfl, s1, s2, rfl, ok, rfl, hx, hn, h⟩ := h
    refine ⟨s, n, K, x, rfl, s1, s2, rfl, ok, rfl, hx, hn, ?_⟩
    exact ⟨s, n, K, x, rfl, s1, s2, rfl, ok, rfl, hx, hn, h⟩
  · exact h.elim
abbrev s_home_of : Stmt := top 35
theorem sc_home_of : FnScope ["size", "kind", "key"] ["size", "kind", "key"] (defScope s_home_of) := ⟨rfl, rfl, rfl, by decide +kernel, rfl, by decide +kernel, by decide +kernel⟩
def S_home_of : FS := fun ss Q E => match ss with
  | [.d _ z, .d _ kd, .d _ key] => ∃ (s n : Nat) (K : Kd) (x : Str), z = .int (s : Nat) ∧ 1 ≤ s ∧ s ≤ 4096 ∧ kd = K.data ∧ K.ok ∧ key = keyD x n ∧ x ∈ NMS ∧ n ≤ 4294967295 ∧ ∀ k, Q (.d k (.int (n % s : Nat)))
  | _ => False
theorem f_home_of (T : Tx K mg) (F_need_row_of : DFn P w K mg base TT false 0 5 "need_row_of" ["size", "kind", "key"] S_need_row_of) (F_row_at : DFn P w K mg base TT false 0 3 "row_at" ["size", "kind", "key"] S_row_at) : DFn P w K mg base TT false 0 6 "home_of" ["size", "kind", "key"] S_home_of := by
  refine dfn (N := ["size", "kind", "key"]) T.ft_home_of sc_home_of (fun a cdv A out s H E C xc hg hT hr => by
    have F_need_row_of : DFn P w K mg base C.T false 0 5 "need_row_of" ["size", "kind", "key"] S_need_row_of := (by rw [hT]; exact F_need_row_of); have F_row_at : DFn P w K mg base C.T false 0 3 "row_at" ["size", "kind", "key"] S_row_at := (by rw [hT]; exact F_row_at); have hr_need_row_of := hr.mono (show 5 ≤ 5 by decide); have gd_need_row_of : false = true → C.gd = true := fun h => (by cases h); have hr_row_at := hr.mono (show 3 ≤ 5 by decide); have gd_row_at : false = true → C.gd = true := fun h => (by cases h); exact (dss_cons (ds_expr (de_call F_need_row_of xc gd_need_row_of hr_need_row_of (da_cons (de_var 0) (da_cons (de_var 1) (da_cons (de_var 2) da_nil)))))
  (dss_one (ds_ret (de_ix xc (de_call F_row_at xc gd_row_at hr_row_at (da_cons (de_var 0) (da_cons (de_var 1) (da_cons (de_var 2) da_nil)))) de_int))))) ?_
  intro ss Q E hl h
  unfold S_home_of at h
  split at h
  · rename_i k z k2 kd k3 key
    obtain ⟨s, n, K, x, rfl, s1, s2, rfl, ok, rfl, hx, hn, h⟩ := h
    refine ⟨s, n, K, x, rfl, s1, s2, rfl, ok, rfl, hx, hn, ?_⟩
    refine ⟨s, n, K, x, rfl, s1, s2, rfl, ok, rfl, hx, hn, ?_⟩
    obtain ⟨t, e⟩ := row_head K n s1
    rw [e]
    refine ⟨_, at0 _ _, ?_⟩
    exact h _
  · exact h.elim
abbrev s_place_in : Stmt := top 36
theorem sc_place_in : FnScope ["size", "kind", "key", "cell", "row"] ["size", "kind", "key", "cell"] (defScope s_place_in) := ⟨rfl, rfl, rfl, by decide +kernel, rfl, by decide +kernel, by decide +kernel⟩
def S_place_in : FS := fun ss Q E => match ss with
  | [.d _ z, .d _ kd, .d _ key, .d _ (.int j)] => ∃ (s n : Nat) (K : Kd) (x : Str) (c : Nat), z = .int (s : Nat) ∧ 1 ≤ s ∧ s ≤ 4096 ∧ kd = K.data ∧ K.ok ∧ key = keyD x n ∧ x ∈ NMS ∧ n ≤ 4294967295 ∧ j = (c : Nat) ∧ c < s ∧ ((c ∉ rowN K s n ∧ Q (.d false .none)) ∨ ∃ j : Nat, (rowN K s n)[j]? = some c ∧ (∀ m, m < j → (rowN K s n)[m]? ≠ some c) ∧ Q (.d false (.int (j : Nat))))
  | _ => False
theorem f_place_in (T : Tx K mg) (F_need_row_of : DFn P w K mg base TT false 0 5 "need_row_of" ["size", "kind", "key"] S_need_row_of) (F_need_cell : DFn P w K mg base TT false 0 2 "need_cell" ["size", "cell"] S_need_cell) (F_row_at : DFn P w K mg base TT false 0 3 "row_at" ["size", "kind", "key"] S_row_at) : DFn P w K mg base TT false 0 6 "place_in" ["size", "kind", "key", "cell"] S_place_in := by
  refine dfn (N := ["size", "kind", "key", "cell", "row"]) T.ft_place_in sc_place_in (fun a cdv A out s H E C xc hg hT hr => by
    have F_need_row_of : DFn P w K mg base C.T false 0 5 "need_row_of" ["size", "kind", "key"] S_need_row_of := (by rw [hT]; exact F_need_row_of); have F_need_cell : DFn P w K mg base C.T false 0 2 "need_cell" ["size", "cell"] S_need_cell := (by rw [hT]; exact F_need_cell); have F_row_at : DFn P w K mg base C.T false 0 3 "row_at" ["size", "kind", "key"] S_row_at := (by rw [hT]; exact F_row_at); have hr_need_row_of := hr.mono (show 5 ≤ 5 by decide); have gd_need_row_of : false = true → C.gd = true := fun h => (by cases h); have hr_need_cell := hr.mono (show 2 ≤ 5 by decide); have gd_need_cell : false = true → C.gd = true := fun h => (by cases h); have hr_row_at := hr.mono (show 3 ≤ 5 by decide); have gd_row_at : false = true → C.gd = true := fun h => (by cases h); exact (dss_cons (ds_expr (de_call F_need_row_of xc gd_need_row_of hr_need_row_of (da_cons (de_var 0) (da_cons (de_var 1) (da_cons (de_var 2) da_nil)))))
  (dss_cons (ds_expr (de_call F_need_cell xc gd_need_cell hr_need_cell (da_cons (de_var 0) (da_cons (de_var 3) da_nil))))
  (dss_cons (ds_set 4 sc_place_in.nd (de_call F_row_at xc gd_row_at hr_row_at (da_cons (de_var 0) (da_cons (de_var 1) (da_cons (de_var 2) da_nil)))))
  (dss_one (ds_ret (de_if (dt_cmp (dop_in xc) (de_var 3) (de_var 4)) (de_tindex 4 xc (de_var 3) (hb := fun h => pe_bmX PySem.F.plainAttrs_tuple PySem.F.slot_tuple_index PySem.F.type_tuple_index h (pv 4) (pa_cons (de_var 3) pa_nil))) de_none))))))) ?_
  intro ss Q E hl h
  unfold S_place_in at h
  split at h
  · rename_i k z k2 kd k3 key k4 j
    obtain ⟨s, n, K, x, c, rfl, s1, s2, rfl, ok, rfl, hx, hn, rfl, hc, h⟩ := h
    refine ⟨s, n, K, x, rfl, s1, s2, rfl, ok, rfl, hx, hn, ?_⟩
    refine ⟨s, c, rfl, rfl, hc, ?_⟩
    refine ⟨s, n, K, x, rfl, s1, s2, rfl, ok, rfl, hx, hn, ?_⟩
    refine ⟨shaped_int _, shaped_tup _, ?_⟩
    rcases h with ⟨no, h⟩ | ⟨j, e1, e2, h⟩
    · refine if_f (b := ((rowN K s n).map fun x => PyData.int (x : Nat)).any fun z => PyData.eqv z (.int (c : Nat))) (by rw [any_ints]; exact decide_eq_false no) ?_
      exact h
    · refine if_t (b := ((rowN K s n).map fun x => PyData.int (x : Nat)).any fun z => PyData.eqv z (.int (c : Nat))) (by rw [any_ints]; exact decide_eq_true (List.mem_of_getElem? e1)) ?_
      refine ⟨⟨_, _, rfl⟩, (rowN K s n).map fun x => ((x : Nat) : Int), j, by rw [List.map_map]; rfl, by rw [List.getElem?_map, e1]; rfl, fun m hm z => ?_, h⟩
      rw [List.getElem?_map] at z
      cases q : (rowN K s n)[m]? with
      | none => rw [q] at z; cases z
      | some y =>
        rw [q] at z
        have z2 : ((y : Nat) : Int) = (c : Nat) := Option.some.inj z
        exact e2 m hm (by rw [q]; congr 1; omega)
  · exact h.elim
abbrev s_together : Stmt := top 37
theorem sc_together : FnScope ["size", "kind", "one", "other", "many", "cell", "beside"] ["size", "kind", "one", "other"] (defScope s_together) := ⟨rfl, rfl, rfl, by decide +kernel, rfl, by decide +kernel, by decide +kernel⟩
def S_together : FS := fun ss Q E => match ss with
  | [.d _ z, .d _ kd, .d _ key, .d _ key2] => ∃ (s n m : Nat) (K : Kd) (x y : Str), z = .int (s : Nat) ∧ 1 ≤ s ∧ s ≤ 4096 ∧ kd = K.data ∧ K.ok ∧ key = keyD x n ∧ x ∈ NMS ∧ n ≤ 4294967295 ∧ key2 = keyD y m ∧ y ∈ NMS ∧ m ≤ 4294967295 ∧ Q (.d false (.int (tog (rowN K s n) (rowN K s m) : Nat)))
  | _ => False
theorem f_together (T : Tx K mg) (F_need_row_of : DFn P w K mg base TT false 0 5 "need_row_of" ["size", "kind", "key"] S_need_row_of) (F_need_key : DFn P w K mg base TT false 0 3 "need_key" ["key"] S_need_key) (F_need_rows : DFn P w K mg base TT false 0 2 "need_rows" ["kind", "lot"] S_need_rows) (F_row_at : DFn P w K mg base TT false 0 3 "row_at" ["size", "kind", "key"] S_row_at) : DFn P w K mg base TT false 0 6 "together" ["size", "kind", "one", "other"] S_together := by
  refine dfn (N := ["size", "kind", "one", "other", "many", "cell", "beside"]) T.ft_together sc_together (fun a cdv A out s H E C xc hg hT hr => by
    have F_need_row_of : DFn P w K mg base C.T false 0 5 "need_row_of" ["size", "kind", "key"] S_need_row_of := (by rw [hT]; exact F_need_row_of); have F_need_key : DFn P w K mg base C.T false 0 3 "need_key" ["key"] S_need_key := (by rw [hT]; exact F_need_key); have F_need_rows : DFn P w K mg base C.T false 0 2 "need_rows" ["kind", "lot"] S_need_rows := (by rw [hT]; exact F_need_rows); have F_row_at : DFn P w K mg base C.T false 0 3 "row_at" ["size", "kind", "key"] S_row_at := (by rw [hT]; exact F_row_at); have hr_need_row_of := hr.mono (show 5 ≤ 5 by decide); have gd_need_row_of : false = true → C.gd = true := fun h => (by cases h); have hr_need_key := hr.mono (show 3 ≤ 5 by decide); have gd_need_key : false = true → C.gd = true := fun h => (by cases h); have hr_need_rows := hr.mono (show 2 ≤ 5 by decide); have gd_need_rows : false = true → C.gd = true := fun h => (by cases h); have hr_row_at := hr.mono (show 3 ≤ 5 by decide); have gd_row_at : false = true → C.gd = true := fun h => (by cases h); exact (dss_cons (ds_expr (de_call F_need_row_of xc gd_need_row_of hr_need_row_of (da_cons (de_var 0) (da_cons (de_var 1) (da_cons (de_var 2) da_nil)))))
  (dss_cons (ds_expr (de_call F_need_key xc gd_need_key hr_need_key (da_cons (de_var 3) da_nil)))
  (dss_cons (ds_expr (de_call F_need_rows xc gd_need_rows hr_need_rows (da_cons (de_var 1) (da_cons (de_tup (da_cons (de_var 3) da_nil)) da_nil))))
  (dss_cons (ds_set 4 sc_together.nd de_int)
  (dss_cons (ds_for xc (di_zip xc T.b_zip (de_call F_row_at xc gd_row_at hr_row_at (da_cons (de_var 0) (da_cons (de_var 1) (da_cons (de_var 2) da_nil)))) (de_call F_row_at xc gd_row_at hr_row_at (da_cons (de_var 0) (da_cons (de_var 1) (da_cons (de_var 3) da_nil))))) (dg_tup (vs := [0, 1, 2, 3, 4, 5, 6]) xc (dgs_cons (dg_name (vs := [0, 1, 2, 3, 4, 5, 6]) 5 sc_together.nd) (dgs_cons (dg_name (vs := [0, 1, 2, 3, 4, 5, 6]) 6 sc_together.nd) (dgs_nil (vs := [0, 1, 2, 3, 4, 5, 6])))) rfl (fun h => pg_tup (by rfl) h))
  (dss_cons (ds_if (dt_cmp (dop_ne xc) (de_var 5) (de_var 6))
  (dss_one ds_break)
  dss_nil)
  (dss_one (ds_aug 4 sc_together.nd dip_add de_int))))
  (dss_one (ds_retV 4)))))))) ?_
  intro ss Q E hl h
  unfold S_together at h
  split at h
  · rename_i k z k2 kd k3 key k4 key2
    obtain ⟨s, n, m, K, x, y, rfl, s1, s2, rfl, ok, rfl, hx, hn, rfl, hy, hm, h⟩ := h
    refine ⟨s, n, K, x, rfl, s1, s2, rfl, ok, rfl, hx, hn, ?_⟩
    refine ⟨m, y, rfl, hy, hm, ?_⟩
    refine ⟨K, _, rfl, rfl, ?_⟩
    refine ⟨s, n, K, x, rfl, s1, s2, rfl, ok, rfl, hx, hn, ?_⟩
    refine ⟨s, m, K, y, rfl, s1, s2, rfl, ok, rfl, hy, hm, ?_⟩
    refine for_ind (fun ss ρ => ∃ (l r : List Nat) (mm : Nat) (a5 a6 : Option SV), ss = (l.zip r).map (fun p => SV.d true (.tuple [.int (p.1 : Nat), .int (p.2 : Nat)])) ∧ tog (rowN K s n) (rowN K s m) = mm + tog l r ∧ ρ = [some (.d k (.int (s : Nat))), some (.d k2 K.data), some (.d k3 (keyD x n)), some (.d k4 (keyD y m)), some (.d false (.int (mm : Nat))), a5, a6]) ?_ ?_ _ _ ⟨rowN K s n, rowN K s m, 0, none, none, zip_cells, by rw [Nat.zero_add], rfl⟩
    · rintro v t ρ ⟨l, r, mm, a5, a6, hs, ht, rfl⟩ J hJ
      cases l with
      | nil => cases hs
      | cons u l =>
        cases r with
        | nil => cases hs
        | cons w r =>
          injection hs with hs1 hs2
          subst hs1; subst hs2
          refine ⟨rfl, ?_⟩
          refine ⟨rfl, ?_⟩
          by_cases e : u = w
          · refine if_f (b := !(PyData.eqv (.int (u : Nat)) (.int (w : Nat)))) (by rw [len_is, decide_eq_true e]; rfl) ?_
            refine ⟨trivial, ?_⟩
            refine hJ _ ⟨l, r, mm + 1, some (.d true (.int (u : Nat))), some (.d true (.int (w : Nat))), rfl, ?_, ?_⟩
            · rw [ht]
              show mm + (if u = w then tog l r + 1 else 0) = _
              rw [if_pos e]; omega
            · rw [Int.natCast_add]; rfl
          · refine if_t (b := !(PyData.eqv (.int (u : Nat)) (.int (w : Nat)))) (by rw [len_is, decide_eq_false e]; rfl) ?_
            rw [ht] at h
            have e0 : tog (u :: l) (w :: r) = 0 := by
              show (if u = w then _ else 0) = 0
              rw [if_neg e]
            rw [e0, Nat.add_zero] at h
            exact h
    · rintro ρ ⟨l, r, mm, a5, a6, hs, ht, rfl⟩
      have e0 : tog l r = 0 := by
        cases l with
        | nil => cases r <;> rfl
        | cons u l =>
          cases r with
          | nil => rfl
          | cons w r => cases hs
      rw [ht, e0, Nat.add_zero] at h
      exact h
  · exact h.elim
abbrev s_need_great : Stmt := top 40
theorem sc_need_great : FnScope ["great", "kind"] ["great", "kind"] (defScope s_need_great) := ⟨rfl, rfl, rfl, by decide +kernel, rfl, by decide +kernel, by decide +kernel⟩
def S_need_great : FS := fun ss Q E => match ss with
  | [.d _ z, .d _ kd] => ∃ (s : Nat) (K : Kd), z = .int (s : Nat) ∧ 1 ≤ s ∧ s ≤ 4096 ∧ kd = K.data ∧ K.ok ∧ K ≠ .own ∧ Q (.d false .none)
  | _ => False
theorem f_need_great (T : Tx K mg) (F_is_whole : DFn P w K mg base TT false 0 1 "is_whole" ["value", "low", "high"] S_is_whole) (F_is_plain_kind : DFn P w K mg base TT false 0 2 "is_plain_kind" ["value"] S_is_plain_kind) : DFn P w K mg base TT false 0 3 "need_great" ["great", "kind"] S_need_great := by
  refine dfn (N := ["great", "kind"]) T.ft_need_great sc_need_great (fun a cdv A out s H E C xc hg hT hr => by
    have F_is_whole : DFn P w K mg base C.T false 0 1 "is_whole" ["value", "low", "high"] S_is_whole := (by rw [hT]; exact F_is_whole); have F_is_plain_kind : DFn P w K mg base C.T false 0 2 "is_plain_kind" ["value"] S_is_plain_kind := (by rw [hT]; exact F_is_plain_kind); have hr_is_whole := hr.mono (show 1 ≤ 2 by decide); have gd_is_whole : false = true → C.gd = true := fun h => (by cases h); have hr_is_plain_kind := hr.mono (show 2 ≤ 2 by decide); have gd_is_plain_kind : false = true → C.gd = true := fun h => (by cases h); exact (dss_cons (ds_if (dt_not (dt_val (de_call F_is_whole xc gd_is_whole hr_is_whole (da_cons (de_var 0) (da_cons de_int (da_cons (de_glob xc T.g_MOST_GREAT) da_nil))))))
  (dss_one (ds_raise xc T.e_BadGreat))
  dss_nil)
  (dss_one (ds_if (dt_not (dt_val (de_call F_is_plain_kind xc gd_is_plain_kind hr_is_plain_kind (da_cons (de_var 1) da_nil))))
  (dss_one (ds_raise xc T.e_BadKind))
  dss_nil)))) ?_
  intro ss Q E hl h
  unfold S_need_great at h
  split at h
  · rename_i k z k2 kd
    obtain ⟨s, K, rfl, s1, s2, rfl, ok, hK, h⟩ := h
    refine if_f (b := !(isWhole (.int (s : Nat)) 1 1000000000)) (by rw [whole_yes (by omega) (by omega)]; rfl) ?_
    exact ⟨K, rfl, ok, hK, h⟩
  · exact h.elim
abbrev s_powered : Stmt := top 41
theorem sc_powered : FnScope ["base", "times", "found", "turn"] ["base", "times"] (defScope s_powered) := ⟨rfl, rfl, rfl, by decide +kernel, rfl, by decide +kernel, by decide +kernel⟩
def S_powered : FS := fun ss Q _ => match ss with
  | [.d _ (.int b), .d _ (.int n)] => ∃ base many : Nat, b = (base : Nat) ∧ n = (many : Nat) ∧ base ≤ 10000 ∧ many ≤ 1000 ∧ Q (.d false (.int (base ^ many : Nat)))
  | _ => False
theorem f_powered (T : Tx K mg) : DFn P w K mg base TT false 0 1 "powered" ["base", "times"] S_powered := by
  refine dfn (N := ["base", "times", "found", "turn"]) T.ft_powered sc_powered (fun a cdv A out s H E C xc hg hT hr => by
    exact (dss_cons (ds_set 2 sc_powered.nd de_int)
  (dss_cons (ds_for xc (di_rng1 xc T.b_range (de_var 1)) (dg_name (vs := [0, 1, 2, 3]) 3 sc_powered.nd)
  (dss_one (ds_aug 2 sc_powered.nd dip_mul (de_var 0))))
  (dss_one (ds_retV 2))))) ?_
  intro ss Q E hl h
  unfold S_powered at h
  split at h
  · rename_i k b k2 n
    obtain ⟨base, many, rfl, rfl, hb, hm, h⟩ := h
    refine ⟨by omega, by omega, ?_⟩
    refine for_ind (fun ss ρ => ∃ (j : Nat) (c : Option SV), j ≤ many ∧ ss.length = many - j ∧ ρ = [some (.d k (.int (base : Nat))), some (.d k2 (.int (many : Nat))), some (.d false (.int (base ^ j : Nat))), c]) ?_ ?_ _ _ ⟨0, none, by omega, by rw [List.length_map, List.length_range]; omega, rfl⟩
    · rintro s r ρ ⟨j, c, hj, hs, rfl⟩ J hJ
      rw [List.length_cons] at hs
      have e : ((base ^ j : Nat) : Int) * ((base : Nat) : Int) = ((base ^ (j + 1) : Nat) : Int) := by rw [Nat.pow_succ]; norm_cast
      refine ⟨.inr ⟨by omega, by omega⟩, ?_⟩
      refine hJ _ ⟨j + 1, some s, by omega, by omega, ?_⟩
      show [_, _, some (SV.d false (.int (((base ^ j : Nat) : Int) * ((base : Nat) : Int)))), _] = _
      rw [e]
    · rintro ρ ⟨j, c, hj, hs, rfl⟩
      have e : j = many := by
        rw [List.length_nil] at hs
        omega
      subst e
      exact h
  · exact h.elim
abbrev s_prime_powers : Stmt := top 42
theorem sc_prime_powers : FnScope ["number", "found", "prime", "many"] ["number"] (defScope s_prime_powers) := ⟨rfl, rfl, rfl, by decide +kernel, rfl, by decide +kernel, by decide +kernel⟩
def S_prime_powers : FS := fun ss Q E => match ss with
  | [.d _ (.int i)] => ∃ n : Nat, i = (n : Nat) ∧ 1 ≤ n ∧ n ≤ 4096 ∧ ∀ k, Q (.fr k (.list ((ppN n).map pD))) ∧ Q (.d k (.list ((ppN n).map pD)))
  | _ => False
theorem f_prime_powers (T : Tx K mg) : DFn P w K mg base TT false 0 1 "prime_powers" ["number"] S_prime_powers := by
  refine dfn (N := ["number", "found", "prime", "many"]) T.ft_prime_powers sc_prime_powers (fun a cdv A out s H E C xc hg hT hr => by
    exact (dss_cons (ds_par (de_lst da_nil) de_int 1 2 (hp := ps_par (by rfl) sc_prime_powers.nd rfl rfl (by decide) rfl rfl (pa_cons (de_lst da_nil) (pa_cons de_int pa_nil)) (by rfl)))
  (dss_cons (ds_while xc (dt_cmp dop_le (de_bin dop_mul (de_var 2) (de_var 2)) (de_var 0))
  (dss_cons (ds_set 3 sc_prime_powers.nd de_int)
  (dss_cons (ds_frz 3 (ds_while xc (dt_cmp (dop_eq xc) (de_bin dop_mod (de_var 0) (de_var 2)) de_int)
  (dss_one (ds_frz 3 (ds_par (de_bin dop_fdivX (de_var 0) (de_var 2)) (de_bin (dop_add xc) (de_var 3) de_int) 0 3 (hp := ps_par (by rfl) sc_prime_powers.nd rfl rfl (by decide) rfl rfl (pa_cons (de_bin dop_fdivX (de_var 0) (de_var 2)) (pa_cons (de_bin (dop_add xc) (de_var 3) de_int) pa_nil)) (by rfl)))))))
  (dss_cons (ds_frz 3 (ds_if (dt_cmp dop_gt (de_var 3) de_int)
  (dss_one (ds_frz 3 (ds_append 1 (de_tup (da_cons (de_var 2) (da_cons (de_var 3) da_nil))) (hb := fun h => pe_bm PySem.F.plainAttrs_list PySem.F.slot_list_append PySem.F.type_list_append h (pv 1) (pa_cons (de_tup (da_cons (de_var 2) (da_cons (de_var 3) da_nil))) pa_nil)))))
  dss_nil))
  (dss_one (ds_aug 2 sc_prime_powers.nd dip_add de_int))))))
  (dss_one (ds_frz 1 (ds_ret (de_if (dt_cmp dop_gt (de_var 0) de_int) (de_bin (dop_add xc) (de_var 1) (de_lst (da_cons (de_tup (da_cons (de_var 0) (da_cons de_int da_nil))) da_nil))) (de_var 1)))))))) ?_
  intro ss Q E hl h
  unfold S_prime_powers at h
  split at h
  · rename_i k i
    obtain ⟨N, rfl, hN1, hN2, h⟩ := h
    refine ⟨67, by decide, ?_⟩
    refine while_ind (fun i ρ => ∃ (f n p : Nat) (done : List (Nat × Nat)) (kn kp kf : Bool) (a3 : Option SV), i = f + 1 ∧ f + p = 68 ∧ 2 ≤ p ∧ p ≤ 65 ∧ 1 ≤ n ∧ n ≤ 4096 ∧ done.length ≤ p ∧ ppN N = done ++ ppGo f n p ∧ ρ = [some (.d kn (.int (n : Nat))), some (.own kf (.list (done.map pD))), some (.d kp (.int (p : Nat))), a3]) ?_ ?_ _ _ ⟨66, N, 2, [], k, false, false, none, rfl, rfl, by decide, by decide, hN1, hN2, by decide, rfl, rfl⟩
    · rintro ρ ⟨f, n, p, done, kn, kp, kf, a3, hf, _⟩
      cases hf
    · rintro i ρ ⟨f, n, p, done, kn, kp, kf, a3, hi, hf, p1, p2, n1, n2, dl, hpp, rfl⟩ J hJ
      by_cases le : p * p ≤ n
      · have p6 := p64 le n2
        refine ⟨.inl ⟨by omega, by omega⟩, ?_⟩
        refine if_t (b := decide (((p : Nat) : Int) * ((p : Nat) : Int) ≤ ((n : Nat) : Int))) (decide_eq_true (by rw [← Int.natCast_mul]; omega)) ?_
        refine ⟨14, by decide, ?_⟩
        refine while_ind (fun i ρ => ∃ (g m n' : Nat) (kn km : Bool), i = g + 1 ∧ g + m = 13 ∧ 1 ≤ n' ∧ n' ≤ n ∧ n' * 2 ^ m ≤ 4096 ∧ strip p 13 n = ((strip p g n').1, (strip p g n').2 + m) ∧ ρ = [some (.d kn (.int (n' : Nat))), some (.own kf (.list (done.map pD))), some (.d kp (.int (p : Nat))), some (.d km (.int (m : Nat)))]) ?_ ?_ _ _ ⟨13, 0, n, kn, false, rfl, rfl, n1, Nat.le_refl _, by omega, rfl, rfl⟩
        · rintro ρ ⟨g, m, n', kn, km, hg, _⟩
          cases hg
        · rintro i2 ρ ⟨g, m, n', kn, km, hg, gm, m1, m2, m3, hs, rfl⟩ J2 hJ2
          refine ⟨show ((p : Nat) : Int) ≠ 0 by omega, rfl, ?_⟩
          have key : PyData.eqv (.int (((n' : Nat) : Int).fmod ((p : Nat) : Int))) (.int 0) = decide (n' % p = 0) := by
            rw [nat_fmod, show (0 : Int) = ((0 : Nat) : Int) from rfl, len_is]
          by_cases z : n' % p = 0
          · refine if_t (b := PyData.eqv (.int (((n' : Nat) : Int).fmod ((p : Nat) : Int))) (.int 0)) (by rw [key]; exact decide_eq_true z) ?_
            have np : p ≤ n' := Nat.le_of_dvd (by omega) (Nat.dvd_of_mod_eq_zero z)
            have mm := m11 m3 (by omega)
            obtain ⟨g, rfl⟩ : ∃ g', g = g' + 1 := ⟨g - 1, by omega⟩
            have e1 : strip p (g + 1) n' = ((strip p g (n' / p)).1, (strip p g (n' / p)).2 + 1) := by
              show (if n' % p = 0 then _ else _) = _
              rw [if_pos z]
            refine ⟨⟨show (0 : Int) < (p : Nat) by omega, small_div (by omega)⟩, ?_⟩
            refine hJ2 _ ⟨g, m + 1, n' / p, false, false, by omega, by omega, Nat.div_pos np (by omega), Nat.le_trans (Nat.div_le_self _ _) m2, halve m3 p1, by rw [hs, e1]; show (_, _ + 1 + m) = (_, _ + (m + 1)); rw [Nat.add_assoc, Nat.add_comm 1 m], ?_⟩
            show [some (SV.d false (.int (((n' : Nat) : Int) / ((p : Nat) : Int)))), _, _, some (SV.d false (.int (((m : Nat) : Int) + 1)))] = _
            rw [Int.natCast_ediv, Int.natCast_add]
            rfl
          · refine if_f (b := PyData.eqv (.int (((n' : Nat) : Int).fmod ((p : Nat) : Int))) (.int 0)) (by rw [key]; exact decide_eq_false z) ?_
            rw [strip_stop z] at hs
            have hs : strip p 13 n = (n', m) := by rw [hs]; show (n', 0 + m) = _; rw [Nat.zero_add]
            obtain ⟨f, rfl⟩ : ∃ f', f = f' + 1 := ⟨f - 1, by omega⟩
            rw [go_yes le, hs] at hpp
            have ep : ((p + 1 : Nat) : Int) = ((p : Nat) : Int) + 1 := by rw [Int.natCast_add]; rfl
            by_cases mp : m > 0
            · refine if_t (b := decide (((m : Nat) : Int) > 0)) (decide_eq_true (by omega)) ?_
              refine ⟨by rw [List.length_map, sizeLine_eq]; omega, trivial, ?_⟩
              rw [if_pos mp] at hpp
              refine hJ _ ⟨f, n', p + 1, done ++ [(p, m)], kn, false, (kf || (kp || (km || false))), some (.d km (.int (m : Nat))), by omega, by omega, by omega, by omega, m1, by omega, by rw [List.length_append]; show _ + 1 ≤ _; omega, by rw [hpp, List.append_assoc], ?_⟩
              rw [ep, List.map_append]
              rfl
            · refine if_f (b := decide (((m : Nat) : Int) > 0)) (decide_eq_false (by omega)) ?_
              refine ⟨trivial, ?_⟩
              rw [if_neg mp, List.nil_append] at hpp
              refine hJ _ ⟨f, n', p + 1, done, kn, false, kf, some (.d km (.int (m : Nat))), by omega, by omega, by omega, by omega, m1, by omega, by omega, hpp, ?_⟩
              rw [ep]
              rfl
      · refine ⟨.inl ⟨by omega, by omega⟩, ?_⟩
        refine if_f (b := decide (((p : Nat) : Int) * ((p : Nat) : Int) ≤ ((n : Nat) : Int))) (decide_eq_false (by rw [← Int.natCast_mul]; omega)) ?_
        obtain ⟨f, rfl⟩ : ∃ f', f = f' + 1 := ⟨f - 1, by omega⟩
        rw [go_no le] at hpp
        by_cases one : n > 1
        · refine if_t (b := decide (((n : Nat) : Int) > 1)) (decide_eq_true (by omega)) ?_
          refine ⟨by rw [List.length_map, sizeLine_eq]; show _ + 1 ≤ _; omega, ?_⟩
          rw [if_pos one] at hpp
          have h := fun k => (h k).1
          rw [hpp, List.map_append] at h
          exact h _
        · refine if_f (b := decide (((n : Nat) : Int) > 1)) (decide_eq_false (by omega)) ?_
          rw [if_neg one, List.append_nil] at hpp
          have h := fun k => (h k).2
          rw [hpp] at h
          exact h _
  · exact h.elim
abbrev s_divided : Stmt := top 43
theorem sc_divided : FnScope ["number", "prime", "most", "many"] ["number", "prime", "most"] (defScope s_divided) := ⟨rfl, rfl, rfl, by decide +kernel, rfl, by decide +kernel, by decide +kernel⟩
def S_divided : FS := fun ss Q E => match ss with
  | [.d _ (.int x), .d _ (.int i), .d _ (.int j)] => ∃ a p m : Nat, x = (a : Nat) ∧ i = (p : Nat) ∧ j = (m : Nat) ∧ a ≤ 4095 ∧ 2 ≤ p ∧ p ≤ 4096 ∧ m ≤ 13 ∧ ∀ k, Q (.d k (.int (divN a p m : Nat)))
  | _ => False
theorem f_divided (T : Tx K mg) (F_powered : DFn P w K mg base TT false 0 1 "powered" ["base", "times"] S_powered) : DFn P w K mg base TT false 0 2 "divided" ["number", "prime", "most"] S_divided := by
  refine dfn (N := ["number", "prime", "most", "many"]) T.ft_divided sc_divided (fun a cdv A out s H E C xc hg hT hr => by
    have F_powered : DFn P w K mg base C.T false 0 1 "powered" ["base", "times"] S_powered := (by rw [hT]; exact F_powered); have hr_powered := hr.mono (show 1 ≤ 1 by decide); have gd_powered : false = true → C.gd = true := fun h => (by cases h); exact (dss_cons (ds_set 3 sc_divided.nd de_int)
  (dss_cons (ds_while xc (dt_w (dw_and (dt_cmp dop_lt (de_var 3) (de_var 2)) (dw_and1 (dt_cmp (dop_eq xc) (de_bin dop_mod (de_var 0) (de_call F_powered xc gd_powered hr_powered (da_cons (de_var 1) (da_cons (de_bin (dop_add xc) (de_var 3) de_int) da_nil)))) de_int))))
  (dss_one (ds_aug 3 sc_divided.nd dip_add de_int)))
  (dss_one (ds_retV 3))))) ?_
  intro ss Q E hl h
  unfold S_divided at h
  split at h
  · rename_i k x k2 i k3 j
    obtain ⟨a, p, m, rfl, rfl, rfl, a1, p1, p2, m1, h⟩ := h
    refine ⟨m + 1, by omega, ?_⟩
    refine while_ind (fun i ρ => ∃ (j : Nat) (kk : Bool), i + j = m + 1 ∧ divN a p m = divGo a p m (14 - j) j ∧ j ≤ m ∧ ρ = [some (.d k (.int (a : Nat))), some (.d k2 (.int (p : Nat))), some (.d k3 (.int (m : Nat))), some (.d kk (.int (j : Nat)))]) ?_ ?_ _ _ ⟨0, false, by omega, rfl, by omega, rfl⟩
    · rintro ρ ⟨j, kk, h1, h2, h3, _⟩
      omega
    · rintro i ρ ⟨j, kk, h1, h2, h3, rfl⟩ J hJ
      by_cases lt : j < m
      · refine if_t (b := decide (((j : Nat) : Int) < (m : Nat))) (decide_eq_true (by omega)) ?_
        refine ⟨p, j + 1, rfl, by rw [Int.natCast_add]; rfl, by omega, by omega, ?_⟩
        refine ⟨pow_ne p1 _, rfl, ?_⟩
        have key : PyData.eqv (.int (((a : Nat) : Int).fmod ((p ^ (j + 1) : Nat) : Int))) (.int 0) = decide (a % p ^ (j + 1) = 0) := by
          rw [nat_fmod, show (0 : Int) = ((0 : Nat) : Int) from rfl, len_is]
        by_cases z : a % p ^ (j + 1) = 0
        · refine if_t (b := PyData.eqv (.int (((a : Nat) : Int).fmod ((p ^ (j + 1) : Nat) : Int))) (.int 0)) (by rw [key]; exact decide_eq_true z) ?_
          refine ⟨trivial, ?_⟩
          refine hJ _ ⟨j + 1, false, by omega, by rw [h2, div_step lt m1 z], by omega, ?_⟩
          rw [Int.natCast_add]
          rfl
        · refine if_f (b := PyData.eqv (.int (((a : Nat) : Int).fmod ((p ^ (j + 1) : Nat) : Int))) (.int 0)) (by rw [key]; exact decide_eq_false z) ?_
          have h := h kk
          rw [h2, div_stop (by omega) (fun q => z q.2)] at h
          exact h
      · refine if_f (b := decide (((j : Nat) : Int) < (m : Nat))) (decide_eq_false (by omega)) ?_
        have h := h kk
        rw [h2, div_stop (by omega) (fun q => lt q.1)] at h
        exact h
  · exact h.elim
abbrev s_squares : Stmt := top 44
theorem sc_squares : FnScope ["prime", "most", "more"] ["prime", "most"] (defScope s_squares) := ⟨rfl, rfl, rfl, by decide +kernel, rfl, by decide +kernel, by decide +kernel⟩
def S_squares : FS := fun ss Q E => match ss with
  | [.d _ (.int i), .d _ (.int j)] => ∃ p m : Nat, i = (p : Nat) ∧ j = (m : Nat) ∧ 2 ≤ p ∧ p ≤ 4096 ∧ m ≤ 13 ∧ ∀ k, Q (.d k (.int (sqN p m : Nat)))
  | _ => False
theorem f_squares (T : Tx K mg) (F_powered : DFn P w K mg base TT false 0 1 "powered" ["base", "times"] S_powered) : DFn P w K mg base TT false 0 2 "squares" ["prime", "most"] S_squares := by
  refine dfn (N := ["prime", "most", "more"]) T.ft_squares sc_squares (fun a cdv A out s H E C xc hg hT hr => by
    have F_powered : DFn P w K mg base C.T false 0 1 "powered" ["base", "times"] S_powered := (by rw [hT]; exact F_powered); have hr_powered := hr.mono (show 1 ≤ 1 by decide); have gd_powered : false = true → C.gd = true := fun h => (by cases h); exact (dss_cons (ds_if (dt_cmp (dop_eq xc) (de_var 1) de_int)
  (dss_one (ds_ret de_int))
  dss_nil)
  (dss_cons (ds_if (dt_cmp (dop_eq xc) (de_var 0) de_int)
  (dss_one (ds_ret (de_bin dop_fdivX (de_bin (dop_add xc) (de_call F_powered xc gd_powered hr_powered (da_cons de_int (da_cons (de_bin dop_sub (de_var 1) de_int) da_nil))) (de_if (dt_cmp (dop_eq xc) (de_bin dop_mod (de_var 1) de_int) de_int) de_int de_int)) de_int)))
  dss_nil)
  (dss_cons (ds_set 2 sc_squares.nd (de_if (dt_cmp (dop_eq xc) (de_bin dop_mod (de_var 1) de_int) de_int) (de_bin (dop_add xc) (de_var 0) de_int) (de_bin (dop_add xc) (de_bin dop_mul de_int (de_var 0)) de_int)))
  (dss_one (ds_frz 2 (ds_ret (de_bin dop_fdivX (de_bin (dop_add xc) (de_call F_powered xc gd_powered hr_powered (da_cons (de_var 0) (da_cons (de_bin (dop_add xc) (de_var 1) de_int) da_nil))) (de_var 2)) (de_bin dop_mul de_int (de_bin (dop_add xc) (de_var 0) de_int)))))))))) ?_
  intro ss Q E hl h
  unfold S_squares at h
  split at h
  · rename_i k i k2 j
    obtain ⟨p, m, rfl, rfl, p1, p2, m1, h⟩ := h
    have c0 : ∀ n : Nat, PyData.eqv (.int (n : Nat)) (.int 0) = decide (n = 0) := fun n => len_is n 0
    have par : PyData.eqv (.int (((m : Nat) : Int).fmod 2)) (.int 0) = decide (m % 2 = 0) := by
      rw [show (2 : Int) = ((2 : Nat) : Int) from rfl, nat_fmod]
      exact c0 _
    refine ⟨rfl, ?_⟩
    by_cases z : m = 0
    · refine if_t (b := PyData.eqv (.int (m : Nat)) (.int 0)) (by rw [c0]; exact decide_eq_true z) ?_
      exact Q_int (show (1 : Int) = (sqN p m : Nat) by unfold sqN; rw [if_pos z]; rfl) (h false)
    refine if_f (b := PyData.eqv (.int (m : Nat)) (.int 0)) (by rw [c0]; exact decide_eq_false z) ?_
    refine ⟨rfl, ?_⟩
    by_cases two : p = 2
    · refine if_t (b := PyData.eqv (.int (p : Nat)) (.int 2)) (by rw [show (2 : Int) = ((2 : Nat) : Int) from rfl, len_is]; exact decide_eq_true two) ?_
      refine ⟨trivial, ?_⟩
      refine ⟨2, m - 1, rfl, (by show ((m : Nat) : Int) - 1 = ((m - 1 : Nat) : Int); omega), by decide, by omega, ?_⟩
      refine ⟨show (2 : Int) ≠ 0 by decide, rfl, ?_⟩
      have d3 : CDivW 1 3 := ⟨by decide, by decide⟩
      by_cases e : m % 2 = 0
      · refine if_t (b := PyData.eqv (.int (((m : Nat) : Int).fmod 2)) (.int 0)) (by rw [par]; exact decide_eq_true e) ?_
        refine ⟨d3, ?_⟩
        exact Q_int (show (((2 ^ (m - 1) : Nat) : Int) + 4) / 3 = (sqN p m : Nat) by unfold sqN; rw [if_neg z, if_pos two, if_pos e]; omega) (h false)
      · refine if_f (b := PyData.eqv (.int (((m : Nat) : Int).fmod 2)) (.int 0)) (by rw [par]; exact decide_eq_false e) ?_
        refine ⟨d3, ?_⟩
        exact Q_int (show (((2 ^ (m - 1) : Nat) : Int) + 5) / 3 = (sqN p m : Nat) by unfold sqN; rw [if_neg z, if_pos two, if_neg e]; omega) (h false)
    refine if_f (b := PyData.eqv (.int (p : Nat)) (.int 2)) (by rw [show (2 : Int) = ((2 : Nat) : Int) from rfl, len_is]; exact decide_eq_false two) ?_
    refine ⟨show (2 : Int) ≠ 0 by decide, rfl, ?_⟩
    have dp : CDivW 1 (2 * (((p : Nat) : Int) + 1)) := by
      have e : (2 * (((p : Nat) : Int) + 1)) = ((2 * (p + 1) : Nat) : Int) := by omega
      rw [e]
      exact ⟨by show (0 : Int) < _; omega, small_div (by omega)⟩
    by_cases e : m % 2 = 0
    · refine if_t (b := PyData.eqv (.int (((m : Nat) : Int).fmod 2)) (.int 0)) (by rw [par]; exact decide_eq_true e) ?_
      refine ⟨p, m + 1, rfl, by rw [Int.natCast_add]; rfl, by omega, by omega, ?_⟩
      refine ⟨.inl ⟨by decide, by decide⟩, dp, ?_⟩
      exact Q_int (show (((p ^ (m + 1) : Nat) : Int) + ((p : Nat) + 2)) / (2 * ((p : Nat) + 1)) = (sqN p m : Nat) by unfold sqN; rw [if_neg z, if_neg two, if_pos e, Int.natCast_ediv]; congr 1 <;> omega) (h false)
    · refine if_f (b := PyData.eqv (.int (((m : Nat) : Int).fmod 2)) (.int 0)) (by rw [par]; exact decide_eq_false e) ?_
      refine ⟨.inl ⟨by decide, by decide⟩, ?_⟩
      refine ⟨p, m + 1, rfl, by rw [Int.natCast_add]; rfl, by omega, by omega, ?_⟩
      refine ⟨.inl ⟨by decide, by decide⟩, dp, ?_⟩
      exact Q_int (show (((p ^ (m + 1) : Nat) : Int) + (2 * (p : Nat) + 1)) / (2 * ((p : Nat) + 1)) = (sqN p m : Nat) by unfold sqN; rw [if_neg z, if_neg two, if_neg e, Int.natCast_ediv]; congr 1 <;> omega) (h false)
  · exact h.elim
abbrev s_met_by_power : Stmt := top 45
theorem sc_met_by_power : FnScope ["prime", "most", "kind", "first", "second"] ["prime", "most", "kind"] (defScope s_met_by_power) := ⟨rfl, rfl, rfl, by decide +kernel, rfl, by decide +kernel, by decide +kernel⟩
def S_met_by_power : FS := fun ss Q E => match ss with
  | [.d _ (.int i), .d _ (.int j), .d _ kd] => ∃ (p m : Nat) (K : Kd), i = (p : Nat) ∧ j = (m : Nat) ∧ 2 ≤ p ∧ p ≤ 4096 ∧ m ≤ 13 ∧ kd = K.data ∧ K.ok ∧ K ≠ .own ∧ ∀ k, Q (.d k (.int (metN K p m : Nat)))
  | _ => False
theorem f_met_by_power (T : Tx K mg) (F_powered : DFn P w K mg base TT false 0 1 "powered" ["base", "times"] S_powered) (F_divided : DFn P w K mg base TT false 0 2 "divided" ["number", "prime", "most"] S_divided) (F_squares : DFn P w K mg base TT false 0 2 "squares" ["prime", "most"] S_squares) : DFn P w K mg base TT false 0 3 "met_by_power" ["prime", "most", "kind"] S_met_by_power := by
  refine dfn (N := ["prime", "most", "kind", "first", "second"]) T.ft_met_by_power sc_met_by_power (fun a cdv A out s H E C xc hg hT hr => by
    have F_powered : DFn P w K mg base C.T false 0 1 "powered" ["base", "times"] S_powered := (by rw [hT]; exact F_powered); have F_divided : DFn P w K mg base C.T false 0 2 "divided" ["number", "prime", "most"] S_divided := (by rw [hT]; exact F_divided); have F_squares : DFn P w K mg base C.T false 0 2 "squares" ["prime", "most"] S_squares := (by rw [hT]; exact F_squares); have hr_powered := hr.mono (show 1 ≤ 2 by decide); have gd_powered : false = true → C.gd = true := fun h => (by cases h); have hr_divided := hr.mono (show 2 ≤ 2 by decide); have gd_divided : false = true → C.gd = true := fun h => (by cases h); have hr_squares := hr.mono (show 2 ≤ 2 by decide); have gd_squares : false = true → C.gd = true := fun h => (by cases h); exact (dss_cons (ds_if (dt_cmp (dop_eq xc) (de_ix xc (de_var 2) de_int) de_str)
  (dss_one (ds_ret (de_call F_powered xc gd_powered hr_powered (da_cons (de_var 0) (da_cons (de_bin dop_sub (de_var 1) (de_call F_divided xc gd_divided hr_divided (da_cons (de_ix xc (de_var 2) de_int) (da_cons (de_var 0) (da_cons (de_var 1) da_nil))))) da_nil)))))
  dss_nil)
  (dss_cons (ds_if (dt_cmp (dop_eq xc) (de_ix xc (de_var 2) de_int) de_str)
  (dss_one (ds_ret (de_if (dt_cmp (dop_eq xc) (de_var 0) de_int) (de_call F_powered xc gd_powered hr_powered (da_cons de_int (da_cons (de_var 1) da_nil))) (de_call F_squares xc gd_squares hr_squares (da_cons (de_var 0) (da_cons (de_var 1) da_nil))))))
  dss_nil)
  (dss_cons (ds_par (de_call F_divided xc gd_divided hr_divided (da_cons (de_ix xc (de_var 2) de_int) (da_cons (de_var 0) (da_cons (de_var 1) da_nil)))) (de_call F_divided xc gd_divided hr_divided (da_cons (de_ix xc (de_var 2) de_int) (da_cons (de_var 0) (da_cons (de_var 1) da_nil)))) 3 4 (hp := ps_par (by rfl) sc_met_by_power.nd rfl rfl (by decide) rfl rfl (pa_cons (de_call F_divided xc gd_divided hr_divided (da_cons (de_ix xc (de_var 2) de_int) (da_cons (de_var 0) (da_cons (de_var 1) da_nil)))) (pa_cons (de_call F_divided xc gd_divided hr_divided (da_cons (de_ix xc (de_var 2) de_int) (da_cons (de_var 0) (da_cons (de_var 1) da_nil)))) pa_nil)) (by rfl)))
  (dss_cons (ds_frz 3 (ds_frz 4 (ds_if (dt_w (dw_or (dt_cmp dop_lt (de_var 3) (de_var 4)) (dw_or1 (dt_w (dw_and (dt_cmp (dop_eq xc) (de_var 3) (de_var 1)) (dw_and1 (dt_cmp (dop_eq xc) (de_var 4) (de_var 1))))))))
  (dss_one (ds_frz 3 (ds_ret (de_call F_powered xc gd_powered hr_powered (da_cons (de_var 0) (da_cons (de_bin dop_sub (de_var 1) (de_var 3)) da_nil))))))
  dss_nil)))
  (dss_cons (ds_frz 3 (ds_frz 4 (ds_if (dt_w (dw_and (dt_cmp (dop_eq xc) (de_var 3) (de_var 4)) (dw_and1 (dt_cmp (dop_eq xc) (de_var 0) de_int))))
  (dss_one (ds_frz 3 (ds_ret (de_call F_powered xc gd_powered hr_powered (da_cons de_int (da_cons (de_bin dop_sub (de_bin dop_sub (de_var 1) (de_var 3)) de_int) da_nil))))))
  dss_nil)))
  (dss_one (ds_frz 4 (ds_ret (de_call F_squares xc gd_squares hr_squares (da_cons (de_var 0) (da_cons (de_bin dop_sub (de_var 1) (de_var 4)) da_nil)))))))))))) ?_
  intro ss Q E hl h
  unfold S_met_by_power at h
  split at h
  · rename_i k i k2 j k3 kd
    obtain ⟨p, m, K, rfl, rfl, p1, p2, m1, rfl, ok, hK, h⟩ := h
    cases K with
    | own => exact absurd rfl hK
    | by_ a =>
      have ok : a ≤ 4095 := ok
      have dl := divN_le a p m
      repeat (first | refine if_t (by decide) ?_ | refine if_f (by decide) ?_ | refine ⟨(_ : D), rfl, ?_⟩ | refine ⟨(_ : D), at0 _ _, ?_⟩ | refine ⟨trivial, ?_⟩ | refine ⟨rfl, ?_⟩ | refine ⟨.inr ⟨by omega, by omega⟩, ?_⟩ | refine ⟨.inl ⟨by omega, by omega⟩, ?_⟩ | refine ⟨(by omega : (_ : Prop)), ?_⟩ | refine ⟨(by decide +kernel : (_ : Prop)), (by decide +kernel : (_ : Prop)), ?_⟩)
      refine ⟨a, p, m, rfl, rfl, rfl, ok, p1, p2, m1, fun k5 => ?_⟩
      refine ⟨trivial, ?_⟩
      refine ⟨p, m - divN a p m, rfl, by show ((m : Nat) : Int) - (divN a p m : Nat) = _; omega, by omega, by omega, ?_⟩
      exact h false
    | tri =>
      repeat (first | refine if_t (by decide) ?_ | refine if_f (by decide) ?_ | refine ⟨(_ : D), rfl, ?_⟩ | refine ⟨(_ : D), at0 _ _, ?_⟩ | refine ⟨trivial, ?_⟩ | refine ⟨rfl, ?_⟩ | refine ⟨.inr ⟨by omega, by omega⟩, ?_⟩ | refine ⟨.inl ⟨by omega, by omega⟩, ?_⟩ | refine ⟨(by omega : (_ : Prop)), ?_⟩ | refine ⟨(by decide +kernel : (_ : Prop)), (by decide +kernel : (_ : Prop)), ?_⟩)
      by_cases two : p = 2
      · refine if_t (b := PyData.eqv (.int (p : Nat)) (.int 2)) (by rw [show (2 : Int) = ((2 : Nat) : Int) from rfl, len_is]; exact decide_eq_true two) ?_
        refine ⟨2, m, rfl, rfl, by omega, by omega, ?_⟩
        exact Q_int (by simp only [metN]; rw [if_pos two]) (h false)
      · refine if_f (b := PyData.eqv (.int (p : Nat)) (.int 2)) (by rw [show (2 : Int) = ((2 : Nat) : Int) from rfl, len_is]; exact decide_eq_false two) ?_
        refine ⟨p, m, rfl, rfl, p1, p2, m1, fun k5 => ?_⟩
        exact Q_int (by simp only [metN]; rw [if_neg two]) (h _)
    | sq b c =>
      obtain ⟨ok1, ok2⟩ : b ≤ 4095 ∧ c ≤ 4095 := ok
      have dl := divN_le b p m
      have dl2 := divN_le c p m
      repeat (first | refine if_t (by decide) ?_ | refine if_f (by decide) ?_ | refine ⟨(_ : D), rfl, ?_⟩ | refine ⟨(_ : D), at0 _ _, ?_⟩ | refine ⟨trivial, ?_⟩ | refine ⟨rfl, ?_⟩ | refine ⟨.inr ⟨by omega, by omega⟩, ?_⟩ | refine ⟨.inl ⟨by omega, by omega⟩, ?_⟩ | refine ⟨(by omega : (_ : Prop)), ?_⟩ | refine ⟨(by decide +kernel : (_ : Prop)), (by decide +kernel : (_ : Prop)), ?_⟩)
      refine ⟨b, p, m, rfl, rfl, rfl, ok1, p1, p2, m1, fun k5 => ?_⟩
      repeat (first | refine if_t (by decide) ?_ | refine if_f (by decide) ?_ | refine ⟨(_ : D), rfl, ?_⟩ | refine ⟨(_ : D), at0 _ _, ?_⟩ | refine ⟨trivial, ?_⟩ | refine ⟨rfl, ?_⟩ | refine ⟨.inr ⟨by omega, by omega⟩, ?_⟩ | refine ⟨.inl ⟨by omega, by omega⟩, ?_⟩ | refine ⟨(by omega : (_ : Prop)), ?_⟩ | refine ⟨(by decide +kernel : (_ : Prop)), (by decide +kernel : (_ : Prop)), ?_⟩)
      refine ⟨c, p, m, rfl, rfl, rfl, ok2, p1, p2, m1, fun k6 => ?_⟩
      have hm : metN (.sq b c) p m = if divN b p m < divN c p m ∨ (divN b p m = m ∧ divN c p m = m) then p ^ (m - divN b p m) else if divN b p m = divN c p m ∧ p = 2 then 2 ^ (m - divN b p m - 1) else sqN p (m - divN c p m) := rfl
      rw [hm] at h
      generalize divN b p m = u at h dl ⊢
      generalize divN c p m = v at h dl2 ⊢
      by_cases A : u < v
      · refine if_t (b := decide (((u : Nat) : Int) < ((v : Nat) : Int))) (decide_eq_true (by omega)) ?_
        refine ⟨trivial, ?_⟩
        refine ⟨p, m - u, rfl, by show ((m : Nat) : Int) - (u : Nat) = _; omega, by omega, by omega, ?_⟩
        exact Q_int (by rw [if_pos (.inl A)]) (h false)
      refine if_f (b := decide (((u : Nat) : Int) < ((v : Nat) : Int))) (decide_eq_false (by omega)) ?_
      refine ⟨rfl, ?_⟩
      by_cases B : u = m
      · refine if_t (b := PyData.eqv (.int (u : Nat)) (.int (m : Nat))) (by rw [len_is]; exact decide_eq_true B) ?_
        refine ⟨rfl, ?_⟩
        by_cases Cc : v = m
        · refine if_t (b := PyData.eqv (.int (v : Nat)) (.int (m : Nat))) (by rw [len_is]; exact decide_eq_true Cc) ?_
          refine ⟨trivial, ?_⟩
          refine ⟨p, m - u, rfl, by show ((m : Nat) : Int) - (u : Nat) = _; omega, by omega, by omega, ?_⟩
          exact Q_int (by rw [if_pos (.inr ⟨B, Cc⟩)]) (h false)
        refine if_f (b := PyData.eqv (.int (v : Nat)) (.int (m : Nat))) (by rw [len_is]; exact decide_eq_false Cc) ?_
        have AC : ¬ (u < v ∨ (u = m ∧ v = m)) := by omega
        rw [if_neg AC] at h
        refine ⟨rfl, ?_⟩
        by_cases D : u = v
        · refine if_t (b := PyData.eqv (.int (u : Nat)) (.int (v : Nat))) (by rw [len_is]; exact decide_eq_true D) ?_
          refine ⟨rfl, ?_⟩
          by_cases two : p = 2
          · refine if_t (b := PyData.eqv (.int (p : Nat)) (.int 2)) (by rw [show (2 : Int) = ((2 : Nat) : Int) from rfl, len_is]; exact decide_eq_true two) ?_
            refine ⟨trivial, trivial, ?_⟩
            refine ⟨2, m - u - 1, rfl, by show ((m : Nat) : Int) - (u : Nat) - 1 = _; omega, by omega, by omega, ?_⟩
            exact Q_int (by rw [if_pos ⟨D, two⟩]) (h false)
          · refine if_f (b := PyData.eqv (.int (p : Nat)) (.int 2)) (by rw [show (2 : Int) = ((2 : Nat) : Int) from rfl, len_is]; exact decide_eq_false two) ?_
            refine ⟨trivial, ?_⟩
            refine ⟨p, m - v, rfl, by show ((m : Nat) : Int) - (v : Nat) = _; omega, p1, p2, by omega, fun k7 => ?_⟩
            exact Q_int (by rw [if_neg (fun q => two q.2)]) (h _)
        · refine if_f (b := PyData.eqv (.int (u : Nat)) (.int (v : Nat))) (by rw [len_is]; exact decide_eq_false D) ?_
          refine ⟨trivial, ?_⟩
          refine ⟨p, m - v, rfl, by show ((m : Nat) : Int) - (v : Nat) = _; omega, p1, p2, by omega, fun k7 => ?_⟩
          exact Q_int (by rw [if_neg (fun q => D q.1)]) (h _)
      refine if_f (b := PyData.eqv (.int (u : Nat)) (.int (m : Nat))) (by rw [len_is]; exact decide_eq_false B) ?_
      have AC : ¬ (u < v ∨ (u = m ∧ v = m)) := by omega
      rw [if_neg AC] at h
      refine ⟨rfl, ?_⟩
      by_cases D : u = v
      · refine if_t (b := PyData.eqv (.int (u : Nat)) (.int (v : Nat))) (by rw [len_is]; exact decide_eq_true D) ?_
        refine ⟨rfl, ?_⟩
        by_cases two : p = 2
        · refine if_t (b := PyData.eqv (.int (p : Nat)) (.int 2)) (by rw [show (2 : Int) = ((2 : Nat) : Int) from rfl, len_is]; exact decide_eq_true two) ?_
          refine ⟨trivial, trivial, ?_⟩
          refine ⟨2, m - u - 1, rfl, by show ((m : Nat) : Int) - (u : Nat) - 1 = _; omega, by omega, by omega, ?_⟩
          exact Q_int (by rw [if_pos ⟨D, two⟩]) (h false)
        · refine if_f (b := PyData.eqv (.int (p : Nat)) (.int 2)) (by rw [show (2 : Int) = ((2 : Nat) : Int) from rfl, len_is]; exact decide_eq_false two) ?_
          refine ⟨trivial, ?_⟩
          refine ⟨p, m - v, rfl, by show ((m : Nat) : Int) - (v : Nat) = _; omega, p1, p2, by omega, fun k7 => ?_⟩
          exact Q_int (by rw [if_neg (fun q => two q.2)]) (h _)
      · refine if_f (b := PyData.eqv (.int (u : Nat)) (.int (v : Nat))) (by rw [len_is]; exact decide_eq_false D) ?_
        refine ⟨trivial, ?_⟩
        refine ⟨p, m - v, rfl, by show ((m : Nat) : Int) - (v : Nat) = _; omega, p1, p2, by omega, fun k7 => ?_⟩
        exact Q_int (by rw [if_neg (fun q => D q.1)]) (h _)
  · exact h.elim
abbrev s_cells_met : Stmt := top 46
theorem sc_cells_met : FnScope ["great", "kind", "found", "prime", "most"] ["great", "kind"] (defScope s_cells_met) := ⟨rfl, rfl, rfl, by decide +kernel, rfl, by decide +kernel, by decide +kernel⟩
def S_cells_met : FS := fun ss Q E => match ss with
  | [.d _ z, .d _ kd] => ∃ (s : Nat) (K : Kd), z = .int (s : Nat) ∧ 1 ≤ s ∧ s ≤ 1000 ∧ kd = K.data ∧ K.ok ∧ K ≠ .own ∧ Q (.d false (.int (prodN K (ppN s) : Nat)))
  | _ => False
theorem f_cells_met (T : Tx K mg) (F_need_great : DFn P w K mg base TT false 0 3 "need_great" ["great", "kind"] S_need_great) (F_prime_powers : DFn P w K mg base TT false 0 1 "prime_powers" ["number"] S_prime_powers) (F_met_by_power : DFn P w K mg base TT false 0 3 "met_by_power" ["prime", "most", "kind"] S_met_by_power) : DFn P w K mg base TT false 0 4 "cells_met" ["great", "kind"] S_cells_met := by
  refine dfn (N := ["great", "kind", "found", "prime", "most"]) T.ft_cells_met sc_cells_met (fun a cdv A out s H E C xc hg hT hr => by
    have F_need_great : DFn P w K mg base C.T false 0 3 "need_great" ["great", "kind"] S_need_great := (by rw [hT]; exact F_need_great); have F_prime_powers : DFn P w K mg base C.T false 0 1 "prime_powers" ["number"] S_prime_powers := (by rw [hT]; exact F_prime_powers); have F_met_by_power : DFn P w K mg base C.T false 0 3 "met_by_power" ["prime", "most", "kind"] S_met_by_power := (by rw [hT]; exact F_met_by_power); have hr_need_great := hr.mono (show 3 ≤ 3 by decide); have gd_need_great : false = true → C.gd = true := fun h => (by cases h); have hr_prime_powers := hr.mono (show 1 ≤ 3 by decide); have gd_prime_powers : false = true → C.gd = true := fun h => (by cases h); have hr_met_by_power := hr.mono (show 3 ≤ 3 by decide); have gd_met_by_power : false = true → C.gd = true := fun h => (by cases h); exact (dss_cons (ds_expr (de_call F_need_great xc gd_need_great hr_need_great (da_cons (de_var 0) (da_cons (de_var 1) da_nil))))
  (dss_cons (ds_set 2 sc_cells_met.nd de_int)
  (dss_cons (ds_for xc (di_or (di_list xc (de_call F_prime_powers xc gd_prime_powers hr_prime_powers (da_cons (de_var 0) da_nil))) (di_tup xc (de_call F_prime_powers xc gd_prime_powers hr_prime_powers (da_cons (de_var 0) da_nil)))) (dg_tup (vs := [0, 1, 2, 3, 4]) xc (dgs_cons (dg_name (vs := [0, 1, 2, 3, 4]) 3 sc_cells_met.nd) (dgs_cons (dg_name (vs := [0, 1, 2, 3, 4]) 4 sc_cells_met.nd) (dgs_nil (vs := [0, 1, 2, 3, 4])))) rfl (fun h => pg_tup (by rfl) h))
  (dss_one (ds_aug 2 sc_cells_met.nd dip_mul (de_call F_met_by_power xc gd_met_by_power hr_met_by_power (da_cons (de_var 3) (da_cons (de_var 4) (da_cons (de_var 1) da_nil)))))))
  (dss_one (ds_retV 2)))))) ?_
  intro ss Q E hl h
  unfold S_cells_met at h
  split at h
  · rename_i k z k2 kd
    obtain ⟨s, K, rfl, s1, s2, rfl, ok, hK, h⟩ := h
    refine ⟨s, K, rfl, s1, by omega, rfl, ok, hK, ?_⟩
    refine .inl ?_
    refine ⟨s, rfl, s1, by omega, fun k5 => ?_⟩
    have bd := pp_bounds 66 s 2 (show s ≤ 4096 by omega) (Nat.le_refl _) (by decide)
    have T := (cells_is hK 0 s1 s2).1
    have T1 := List.length_pos_iff.mpr (row_ne K 0 s1)
    have T2 := row_max K s1 0
    refine ⟨?_, ?_⟩
    · refine for_ind (fun ss ρ => ∃ (u w : List (Nat × Nat)) (a : Nat) (a3 a4 : Option SV), ss = w.map (fun q => SV.d k5 (pD q)) ∧ u ++ w = ppN s ∧ a * prodN K w = prodN K (ppN s) ∧ ρ = [some (.d k (.int (s : Nat))), some (.d k2 K.data), some (.d false (.int (a : Nat))), a3, a4]) ?_ ?_ _ _ ⟨[], ppN s, 1, none, none, by rw [List.map_map]; rfl, rfl, Nat.one_mul _, rfl⟩
      · rintro v t ρ ⟨u, w, a, a3, a4, hs, he, ha, rfl⟩ J hJ
        cases w with
        | nil => cases hs
        | cons q w =>
          obtain ⟨p, m⟩ := q
          injection hs with hs1 hs2
          subst hs1; subst hs2
          obtain ⟨b1, b2, b3⟩ := bd (p, m) (by show (p, m) ∈ ppN s; rw [← he]; simp)
          refine ⟨rfl, ?_⟩
          refine ⟨p, m, K, rfl, rfl, b1, b2, b3, rfl, ok, hK, fun k7 => ?_⟩
          have al : a ≤ 1000 := by
            have pos : 1 ≤ prodN K ((p, m) :: w) := Nat.pos_of_ne_zero fun z => by rw [z, Nat.mul_zero] at ha; omega
            have := Nat.mul_le_mul_left a pos
            omega
          refine ⟨.inl ⟨by omega, by omega⟩, ?_⟩
          refine hJ _ ⟨u ++ [(p, m)], w, a * metN K p m, some (.d k5 (.int (p : Nat))), some (.d k5 (.int (m : Nat))), rfl, by rw [← he, List.append_assoc]; rfl, ?_, ?_⟩
          · rw [← ha, Nat.mul_assoc]; rfl
          · rw [Int.natCast_mul]; rfl
      · rintro ρ ⟨u, w, a, a3, a4, hs, he, ha, rfl⟩
        have hb : w = [] := by
          cases w with
          | nil => rfl
          | cons x w => cases hs
        subst hb
        have e : a = prodN K (ppN s) := by rw [← ha]; exact (Nat.mul_one a).symm
        rw [← e] at h
        exact h
    · refine for_ind (fun ss ρ => ∃ (u w : List (Nat × Nat)) (a : Nat) (a3 a4 : Option SV), ss = w.map (fun q => SV.d k5 (pD q)) ∧ u ++ w = ppN s ∧ a * prodN K w = prodN K (ppN s) ∧ ρ = [some (.d k (.int (s : Nat))), some (.d k2 K.data), some (.d false (.int (a : Nat))), a3, a4]) ?_ ?_ _ _ ⟨[], ppN s, 1, none, none, by rw [List.map_map]; rfl, rfl, Nat.one_mul _, rfl⟩
      · rintro v t ρ ⟨u, w, a, a3, a4, hs, he, ha, rfl⟩ J hJ
        cases w with
        | nil => cases hs
        | cons q w =>
          obtain ⟨p, m⟩ := q
          injection hs with hs1 hs2
          subst hs1; subst hs2
          obtain ⟨b1, b2, b3⟩ := bd (p, m) (by show (p, m) ∈ ppN s; rw [← he]; simp)
          refine ⟨rfl, ?_⟩
          refine ⟨p, m, K, rfl, rfl, b1, b2, b3, rfl, ok, hK, fun k7 => ?_⟩
          have al : a ≤ 1000 := by
            have pos : 1 ≤ prodN K ((p, m) :: w) := Nat.pos_of_ne_zero fun z => by rw [z, Nat.mul_zero] at ha; omega
            have := Nat.mul_le_mul_left a pos
            omega
          refine ⟨.inl ⟨by omega, by omega⟩, ?_⟩
          refine hJ _ ⟨u ++ [(p, m)], w, a * metN K p m, some (.d k5 (.int (p : Nat))), some (.d k5 (.int (m : Nat))), rfl, by rw [← he, List.append_assoc]; rfl, ?_, ?_⟩
          · rw [← ha, Nat.mul_assoc]; rfl
          · rw [Int.natCast_mul]; rfl
      · rintro ρ ⟨u, w, a, a3, a4, hs, he, ha, rfl⟩
        have hb : w = [] := by
          cases w with
          | nil => rfl
          | cons x w => cases hs
        subst hb
        have e : a = prodN K (ppN s) := by rw [← ha]; exact (Nat.mul_one a).symm
        rw [← e] at h
        exact h
  · exact h.elim
abbrev s_meets_all : Stmt := top 47
theorem sc_meets_all : FnScope ["great", "kind", "prime", "most"] ["great", "kind"] (defScope s_meets_all) := ⟨rfl, rfl, rfl, by decide +kernel, rfl, by decide +kernel, by decide +kernel⟩
def S_meets_all : FS := fun ss Q E => match ss with
  | [.d _ z, .d _ kd] => ∃ (s : Nat) (K : Kd), z = .int (s : Nat) ∧ 1 ≤ s ∧ s ≤ 4096 ∧ kd = K.data ∧ K.ok ∧ K ≠ .own ∧ Q (.d false (.bool (meetsB K s)))
  | _ => False
theorem f_meets_all (T : Tx K mg) (F_need_great : DFn P w K mg base TT false 0 3 "need_great" ["great", "kind"] S_need_great) (F_prime_powers : DFn P w K mg base TT false 0 1 "prime_powers" ["number"] S_prime_powers) (F_met_by_power : DFn P w K mg base TT false 0 3 "met_by_power" ["prime", "most", "kind"] S_met_by_power) (F_powered : DFn P w K mg base TT false 0 1 "powered" ["base", "times"] S_powered) : DFn P w K mg base TT false 0 4 "meets_all" ["great", "kind"] S_meets_all := by
  refine dfn (N := ["great", "kind", "prime", "most"]) T.ft_meets_all sc_meets_all (fun a cdv A out s H E C xc hg hT hr => by
    have F_need_great : DFn P w K mg base C.T false 0 3 "need_great" ["great", "kind"] S_need_great := (by rw [hT]; exact F_need_great); have F_prime_powers : DFn P w K mg base C.T false 0 1 "prime_powers" ["number"] S_prime_powers := (by rw [hT]; exact F_prime_powers); have F_met_by_power : DFn P w K mg base C.T false 0 3 "met_by_power" ["prime", "most", "kind"] S_met_by_power := (by rw [hT]; exact F_met_by_power); have F_powered : DFn P w K mg base C.T false 0 1 "powered" ["base", "times"] S_powered := (by rw [hT]; exact F_powered); have hr_need_great := hr.mono (show 3 ≤ 3 by decide); have gd_need_great : false = true → C.gd = true := fun h => (by cases h); have hr_prime_powers := hr.mono (show 1 ≤ 3 by decide); have gd_prime_powers : false = true → C.gd = true := fun h => (by cases h); have hr_met_by_power := hr.mono (show 3 ≤ 3 by decide); have gd_met_by_power : false = true → C.gd = true := fun h => (by cases h); have hr_powered := hr.mono (show 1 ≤ 3 by decide); have gd_powered : false = true → C.gd = true := fun h => (by cases h); exact (dss_cons (ds_expr (de_call F_need_great xc gd_need_great hr_need_great (da_cons (de_var 0) (da_cons (de_var 1) da_nil))))
  (dss_one (ds_ret (de_b1 (dcall_all xc) T.b_all (by decide +kernel) (de_lc (own := [("prime", 2), ("most", 3)]) xc sc_meets_all.nd (di_or (di_list xc (de_call F_prime_powers xc gd_prime_powers hr_prime_powers (da_cons (de_var 0) da_nil))) (di_tup xc (de_call F_prime_powers xc gd_prime_powers hr_prime_powers (da_cons (de_var 0) da_nil)))) (blkOk_by (own := [("prime", 2), ("most", 3)]) (N := ["great", "kind", "prime", "most"]) (sc := defScope s_meets_all) (by decide +kernel)) (fun _ _ _ _ _ => (dg_tup (vs := ([("prime", 2), ("most", 3)] : List (Str × Nat)).map (·.2)) (xc.blk) (dgs_cons (dg_name (vs := ([("prime", 2), ("most", 3)] : List (Str × Nat)).map (·.2)) 2 sc_meets_all.nd) (dgs_cons (dg_name (vs := ([("prime", 2), ("most", 3)] : List (Str × Nat)).map (·.2)) 3 sc_meets_all.nd) (dgs_nil (vs := ([("prime", 2), ("most", 3)] : List (Str × Nat)).map (·.2))))) rfl (fun h => pg_tup (by rfl) h))) (fun _ _ _ _ _ => dts_nil) (fun _ _ _ _ _ => (de_cmp (dop_eq (xc.blk)) (de_call F_met_by_power (xc.blk) gd_met_by_power hr_met_by_power (da_cons (de_var 2) (da_cons (de_var 3) (da_cons (de_var 1) da_nil)))) (de_call F_powered (xc.blk) gd_powered hr_powered (da_cons (de_var 2) (da_cons (de_var 3) da_nil)))))) xc))))) ?_
  intro ss Q E hl h
  unfold S_meets_all at h
  split at h
  · rename_i k z k2 kd
    obtain ⟨s, K, rfl, s1, s2, rfl, ok, hK, h⟩ := h
    refine ⟨s, K, rfl, s1, s2, rfl, ok, hK, ?_⟩
    refine .inl ?_
    refine ⟨s, rfl, s1, s2, fun k5 => ?_⟩
    have bd := pp_bounds 66 s 2 s2 (Nat.le_refl _) (by decide)
    refine ⟨?_, ?_⟩
    · refine comp_ind (fun ss k acc => ∃ u w : List (Nat × Nat), ss = w.map (fun q => SV.d k5 (pD q)) ∧ acc = (u.map fun q => decide (metN K q.1 q.2 = q.1 ^ q.2)).map PyData.bool ∧ u ++ w = ppN s) ?_ ?_ _ _ _ ⟨[], ppN s, by rw [List.map_map]; rfl, rfl, rfl⟩
      · rintro v t k6 acc ⟨u, w, hs, rfl, he⟩ J hJ
        cases w with
        | nil => cases hs
        | cons q w =>
          obtain ⟨p, m⟩ := q
          injection hs with hs1 hs2
          subst hs1; subst hs2
          obtain ⟨b1, b2, b3⟩ := bd (p, m) (by show (p, m) ∈ ppN s; rw [← he]; simp)
          refine ⟨rfl, ?_⟩
          refine ⟨p, m, K, rfl, rfl, b1, b2, b3, rfl, ok, hK, fun k7 => ?_⟩
          refine ⟨p, m, rfl, rfl, (show p ≤ 10000 from Nat.le_trans b2 (by decide)), (show m ≤ 1000 from Nat.le_trans b3 (by decide)), ?_⟩
          refine ⟨rfl, ?_⟩
          refine hJ _ _ ⟨u ++ [(p, m)], w, rfl, ?_, by rw [← he, List.append_assoc]; rfl⟩
          rw [List.map_append, List.map_append]
          show _ ++ [PyData.bool (PyData.eqv (.int (metN K p m : Nat)) (.int (p ^ m : Nat)))] = _ ++ [PyData.bool (decide (metN K p m = p ^ m))]
          rw [len_is]
      · rintro k6 acc ⟨u, w, hs, rfl, he⟩
        have hb : w = [] := by
          cases w with
          | nil => rfl
          | cons x w => cases hs
        subst hb
        rw [List.append_nil] at he
        subst he
        refine ⟨_, bools_lv2 _ _, ?_⟩
        exact Q_bool (by unfold meetsB; rw [List.all_map]; rfl) h
    · refine comp_ind (fun ss k acc => ∃ u w : List (Nat × Nat), ss = w.map (fun q => SV.d k5 (pD q)) ∧ acc = (u.map fun q => decide (metN K q.1 q.2 = q.1 ^ q.2)).map PyData.bool ∧ u ++ w = ppN s) ?_ ?_ _ _ _ ⟨[], ppN s, by rw [List.map_map]; rfl, rfl, rfl⟩
      · rintro v t k6 acc ⟨u, w, hs, rfl, he⟩ J hJ
        cases w with
        | nil => cases hs
        | cons q w =>
          obtain ⟨p, m⟩ := q
          injection hs with hs1 hs2
          subst hs1; subst hs2
          obtain ⟨b1, b2, b3⟩ := bd (p, m) (by show (p, m) ∈ ppN s; rw [← he]; simp)
          refine ⟨rfl, ?_⟩
          refine ⟨p, m, K, rfl, rfl, b1, b2, b3, rfl, ok, hK, fun k7 => ?_⟩
          refine ⟨p, m, rfl, rfl, (show p ≤ 10000 from Nat.le_trans b2 (by decide)), (show m ≤ 1000 from Nat.le_trans b3 (by decide)), ?_⟩
          refine ⟨rfl, ?_⟩
          refine hJ _ _ ⟨u ++ [(p, m)], w, rfl, ?_, by rw [← he, List.append_assoc]; rfl⟩
          rw [List.map_append, List.map_append]
          show _ ++ [PyData.bool (PyData.eqv (.int (metN K p m : Nat)) (.int (p ^ m : Nat)))] = _ ++ [PyData.bool (decide (metN K p m = p ^ m))]
          rw [len_is]
      · rintro k6 acc ⟨u, w, hs, rfl, he⟩
        have hb : w = [] := by
          cases w with
          | nil => rfl
          | cons x w => cases hs
        subst hb
        rw [List.append_nil] at he
        subst he
        refine ⟨_, bools_lv2 _ _, ?_⟩
        exact Q_bool (by unfold meetsB; rw [List.all_map]; rfl) h
  · exact h.elim
abbrev s_first_short : Stmt := top 48
theorem sc_first_short : FnScope ["size", "primes"] ["size"] (defScope s_first_short) := ⟨rfl, rfl, rfl, by decide +kernel, rfl, by decide +kernel, by decide +kernel⟩
def S_first_short : FS := fun ss Q E => match ss with
  | [.d _ z] => (isWhole z 1 4096 = false ∧ E "BadSize") ∨ ∃ s : Nat, z = .int (s : Nat) ∧ 1 ≤ s ∧ s ≤ 4096 ∧ Q (.d false (shortD s))
  | _ => False
theorem f_first_short (T : Tx K mg) (F_need_size : DFn P w K mg base TT false 0 2 "need_size" ["size"] S_need_size) (F_prime_powers : DFn P w K mg base TT false 0 1 "prime_powers" ["number"] S_prime_powers) : DFn P w K mg base TT false 0 3 "first_short" ["size"] S_first_short := by
  refine dfn (N := ["size", "primes"]) T.ft_first_short sc_first_short (fun a cdv A out s H E C xc hg hT hr => by
    have F_need_size : DFn P w K mg base C.T false 0 2 "need_size" ["size"] S_need_size := (by rw [hT]; exact F_need_size); have F_prime_powers : DFn P w K mg base C.T false 0 1 "prime_powers" ["number"] S_prime_powers := (by rw [hT]; exact F_prime_powers); have hr_need_size := hr.mono (show 2 ≤ 2 by decide); have gd_need_size : false = true → C.gd = true := fun h => (by cases h); have hr_prime_powers := hr.mono (show 1 ≤ 2 by decide); have gd_prime_powers : false = true → C.gd = true := fun h => (by cases h); exact (dss_cons (ds_expr (de_call F_need_size xc gd_need_size hr_need_size (da_cons (de_var 0) da_nil)))
  (dss_cons (ds_set 1 sc_first_short.nd (de_call F_prime_powers xc gd_prime_powers hr_prime_powers (da_cons (de_var 0) da_nil)))
  (dss_cons (ds_frz 1 (ds_if (dt_w (dw_or (dt_cmp (dop_eq xc) (de_var 0) de_int) (dw_or1 (dt_cmp (dop_eq xc) (de_ix xc (de_ix xc (de_var 1) de_int) de_int) (de_var 0)))))
  (dss_one (ds_ret de_none))
  dss_nil))
  (dss_one (ds_frz 1 (ds_ret (de_bin dop_mul (de_bin dop_sub (de_ix xc (de_ix xc (de_var 1) de_int) de_int) de_int) (de_var 0))))))))) ?_
  intro ss Q E hl h
  unfold S_first_short at h
  split at h
  · rename_i k z
    rcases h with ⟨e, h⟩ | ⟨s, rfl, s1, s2, h⟩
    · exact .inr ⟨e, h⟩
    refine .inl ⟨whole_yes (by omega) (by omega), ?_⟩
    refine ⟨s, rfl, s1, s2, fun k5 => ⟨?_, ?_⟩⟩
    · refine ⟨rfl, ?_⟩
      by_cases one : s = 1
      · refine if_t (b := PyData.eqv (.int (s : Nat)) (.int 1)) (by rw [show (1 : Int) = ((1 : Nat) : Int) from rfl, len_is]; exact decide_eq_true one) ?_
        subst one
        exact h
      refine if_f (b := PyData.eqv (.int (s : Nat)) (.int 1)) (by rw [show (1 : Int) = ((1 : Nat) : Int) from rfl, len_is]; exact decide_eq_false one) ?_
      obtain ⟨q, e, r, hpp, hq, hd, hl⟩ := pp_head (show 2 ≤ s by omega) s2 66 2 (Nat.le_refl _) (by decide) (by decide) fun d d1 d2 => by omega
      have hpp : ppN s = (q, e) :: r := hpp
      have hs : shortN s = if s = 1 ∨ q = s then none else some ((q - 1) * s) := by
        unfold shortN
        rw [hpp]
      have qs : q ≤ s := Nat.le_of_dvd (by omega) (Nat.dvd_of_mod_eq_zero hd)
      unfold shortD at h
      rw [hs] at h
      rw [hpp]
      refine ⟨_, at0 _ _, _, at0 _ _, rfl, ?_⟩
      by_cases z : q = s
      · refine if_t (b := PyData.eqv (.int (q : Nat)) (.int (s : Nat))) (by rw [len_is]; exact decide_eq_true z) ?_
        rw [if_pos (.inr z)] at h
        exact h
      · refine if_f (b := PyData.eqv (.int (q : Nat)) (.int (s : Nat))) (by rw [len_is]; exact decide_eq_false z) ?_
        rw [if_neg (by omega)] at h
        refine ⟨_, at0 _ _, _, at0 _ _, trivial, .inr ⟨by omega, by omega⟩, ?_⟩
        exact Q_int (show (((q : Nat) : Int) - 1) * (s : Nat) = (((q - 1) * s : Nat) : Int) by rw [Int.natCast_mul, show (((q - 1 : Nat) : Int)) = (q : Nat) - 1 by omega]) h
    · refine ⟨rfl, ?_⟩
      by_cases one : s = 1
      · refine if_t (b := PyData.eqv (.int (s : Nat)) (.int 1)) (by rw [show (1 : Int) = ((1 : Nat) : Int) from rfl, len_is]; exact decide_eq_true one) ?_
        subst one
        exact h
      refine if_f (b := PyData.eqv (.int (s : Nat)) (.int 1)) (by rw [show (1 : Int) = ((1 : Nat) : Int) from rfl, len_is]; exact decide_eq_false one) ?_
      obtain ⟨q, e, r, hpp, hq, hd, hl⟩ := pp_head (show 2 ≤ s by omega) s2 66 2 (Nat.le_refl _) (by decide) (by decide) fun d d1 d2 => by omega
      have hpp : ppN s = (q, e) :: r := hpp
      have hs : shortN s = if s = 1 ∨ q = s then none else some ((q - 1) * s) := by
        unfold shortN
        rw [hpp]
      have qs : q ≤ s := Nat.le_of_dvd (by omega) (Nat.dvd_of_mod_eq_zero hd)
      unfold shortD at h
      rw [hs] at h
      rw [hpp]
      refine ⟨_, at0 _ _, _, at0 _ _, rfl, ?_⟩
      by_cases z : q = s
      · refine if_t (b := PyData.eqv (.int (q : Nat)) (.int (s : Nat))) (by rw [len_is]; exact decide_eq_true z) ?_
        rw [if_pos (.inr z)] at h
        exact h
      · refine if_f (b := PyData.eqv (.int (q : Nat)) (.int (s : Nat))) (by rw [len_is]; exact decide_eq_false z) ?_
        rw [if_neg (by omega)] at h
        refine ⟨_, at0 _ _, _, at0 _ _, trivial, .inr ⟨by omega, by omega⟩, ?_⟩
        exact Q_int (show (((q : Nat) : Int) - 1) * (s : Nat) = (((q - 1) * s : Nat) : Int) by rw [Int.natCast_mul, show (((q - 1 : Nat) : Int)) = (q : Nat) - 1 by omega]) h
  · exact h.elim
abbrev s_unlike_rows : Stmt := top 49
theorem sc_unlike_rows : FnScope ["size", "kind"] ["size", "kind"] (defScope s_unlike_rows) := ⟨rfl, rfl, rfl, by decide +kernel, rfl, by decide +kernel, by decide +kernel⟩
def S_unlike_rows : FS := fun ss Q E => match ss with
  | [.d _ z, .d _ kd] => ∃ (s : Nat) (K : Kd), z = .int (s : Nat) ∧ 1 ≤ s ∧ s ≤ 4096 ∧ kd = K.data ∧ K.ok ∧ ∀ k, Q (.d k (.int (unN K s : Nat)))
  | _ => False
theorem f_unlike_rows (T : Tx K mg) (F_need_size : DFn P w K mg base TT false 0 2 "need_size" ["size"] S_need_size) (F_need_kind : DFn P w K mg base TT false 0 4 "need_kind" ["size", "kind"] S_need_kind) : DFn P w K mg base TT false 0 5 "unlike_rows" ["size", "kind"] S_unlike_rows := by
  refine dfn (N := ["size", "kind"]) T.ft_unlike_rows sc_unlike_rows (fun a cdv A out s H E C xc hg hT hr => by
    have F_need_size : DFn P w K mg base C.T false 0 2 "need_size" ["size"] S_need_size := (by rw [hT]; exact F_need_size); have F_need_kind : DFn P w K mg base C.T false 0 4 "need_kind" ["size", "kind"] S_need_kind := (by rw [hT]; exact F_need_kind); have hr_need_size := hr.mono (show 2 ≤ 4 by decide); have gd_need_size : false = true → C.gd = true := fun h => (by cases h); have hr_need_kind := hr.mono (show 4 ≤ 4 by decide); have gd_need_kind : false = true → C.gd = true := fun h => (by cases h); exact (dss_cons (ds_expr (de_call F_need_size xc gd_need_size hr_need_size (da_cons (de_var 0) da_nil)))
  (dss_cons (ds_expr (de_call F_need_kind xc gd_need_kind hr_need_kind (da_cons (de_var 0) (da_cons (de_var 1) da_nil))))
  (dss_cons (ds_if (dt_cmp (dop_eq xc) (de_ix xc (de_var 1) de_int) de_str)
  (dss_one (ds_ret de_never))
  dss_nil)
  (dss_one (ds_ret (de_if (dt_w (dw_and (dt_cmp (dop_eq xc) (de_ix xc (de_var 1) de_int) de_str) (dw_and1 (dt_cmp dop_gt (de_var 0) de_int)))) (de_bin dop_mul (de_var 0) (de_bin dop_sub (de_var 0) de_int)) (de_var 0)))))))) ?_
  intro ss Q E hl h
  unfold S_unlike_rows at h
  split at h
  · rename_i k z k2 kd
    obtain ⟨s, K, rfl, s1, s2, rfl, ok, h⟩ := h
    refine .inl ⟨whole_yes (by omega) (by omega), ?_⟩
    refine ⟨K, rfl, ok, ?_⟩
    cases K with
    | own =>
      repeat (first | refine if_t (by decide) ?_ | refine if_f (by decide) ?_ | refine ⟨(_ : D), rfl, ?_⟩ | refine ⟨(_ : D), at0 _ _, ?_⟩ | refine ⟨trivial, ?_⟩ | refine ⟨rfl, ?_⟩ | refine ⟨.inr ⟨by omega, by omega⟩, ?_⟩ | refine ⟨.inl ⟨by omega, by omega⟩, ?_⟩ | refine ⟨(by omega : (_ : Prop)), ?_⟩ | refine ⟨(by decide +kernel : (_ : Prop)), (by decide +kernel : (_ : Prop)), ?_⟩)
      by_cases c : s > 1
      · refine if_t (b := decide (((s : Nat) : Int) > 1)) (decide_eq_true (by omega)) ?_
        refine ⟨trivial, .inl ⟨by omega, by omega⟩, ?_⟩
        exact Q_int (by show ((s : Nat) : Int) * (((s : Nat) : Int) - 1) = ((if s > 1 then s * (s - 1) else s : Nat) : Int); rw [if_pos c, Int.natCast_mul, show ((s - 1 : Nat) : Int) = (s : Nat) - 1 by omega]) (h false)
      · refine if_f (b := decide (((s : Nat) : Int) > 1)) (decide_eq_false (by omega)) ?_
        exact Q_int (by show ((s : Nat) : Int) = ((if s > 1 then s * (s - 1) else s : Nat) : Int); rw [if_neg c]) (h _)
    | by_ a =>
      repeat (first | refine if_t (by decide) ?_ | refine if_f (by decide) ?_ | refine ⟨(_ : D), rfl, ?_⟩ | refine ⟨(_ : D), at0 _ _, ?_⟩ | refine ⟨trivial, ?_⟩ | refine ⟨rfl, ?_⟩ | refine ⟨.inr ⟨by omega, by omega⟩, ?_⟩ | refine ⟨.inl ⟨by omega, by omega⟩, ?_⟩ | refine ⟨(by omega : (_ : Prop)), ?_⟩ | refine ⟨(by decide +kernel : (_ : Prop)), (by decide +kernel : (_ : Prop)), ?_⟩)
      exact h _
    | tri =>
      repeat (first | refine if_t (by decide) ?_ | refine if_f (by decide) ?_ | refine ⟨(_ : D), rfl, ?_⟩ | refine ⟨(_ : D), at0 _ _, ?_⟩ | refine ⟨trivial, ?_⟩ | refine ⟨rfl, ?_⟩ | refine ⟨.inr ⟨by omega, by omega⟩, ?_⟩ | refine ⟨.inl ⟨by omega, by omega⟩, ?_⟩ | refine ⟨(by omega : (_ : Prop)), ?_⟩ | refine ⟨(by decide +kernel : (_ : Prop)), (by decide +kernel : (_ : Prop)), ?_⟩)
      exact h _
    | sq b c =>
      repeat (first | refine if_t (by decide) ?_ | refine if_f (by decide) ?_ | refine ⟨(_ : D), rfl, ?_⟩ | refine ⟨(_ : D), at0 _ _, ?_⟩ | refine ⟨trivial, ?_⟩ | refine ⟨rfl, ?_⟩ | refine ⟨.inr ⟨by omega, by omega⟩, ?_⟩ | refine ⟨.inl ⟨by omega, by omega⟩, ?_⟩ | refine ⟨(by omega : (_ : Prop)), ?_⟩ | refine ⟨(by decide +kernel : (_ : Prop)), (by decide +kernel : (_ : Prop)), ?_⟩)
      exact h _
  · exact h.elim
abbrev s_number_with : Stmt := top 50
theorem sc_number_with : FnScope ["size", "kind", "row", "number"] ["size", "kind", "row"] (defScope s_number_with) := ⟨rfl, rfl, rfl, by decide +kernel, rfl, by decide +kernel, by decide +kernel⟩
def S_number_with : FS := fun ss Q E => match ss with
  | [.d _ z, .d _ kd, .d _ row] => ∃ (s n : Nat) (K : Kd), z = .int (s : Nat) ∧ 1 ≤ s ∧ s ≤ 1000 ∧ kd = K.data ∧ K.ok ∧ row = .tuple ((rowN K s n).map fun x => .int (x : Nat)) ∧ n ≤ 4294967295 ∧ ∀ k, Q (.d k (.int (leastN K s n : Nat)))
  | _ => False
theorem f_number_with (T : Tx K mg) (F_need_size : DFn P w K mg base TT false 0 2 "need_size" ["size"] S_need_size) (F_need_kind : DFn P w K mg base TT false 0 4 "need_kind" ["size", "kind"] S_need_kind) (F_is_cells : DFn P w K mg base TT false 0 2 "is_cells" ["size", "value"] S_is_cells) (F_row_at : DFn P w K mg base TT false 0 3 "row_at" ["size", "kind", "key"] S_row_at) : DFn P w K mg base TT false 0 5 "number_with" ["size", "kind", "row"] S_number_with := by
  refine dfn (N := ["size", "kind", "row", "number"]) T.ft_number_with sc_number_with (fun a cdv A out s H E C xc hg hT hr => by
    have F_need_size : DFn P w K mg base C.T false 0 2 "need_size" ["size"] S_need_size := (by rw [hT]; exact F_need_size); have F_need_kind : DFn P w K mg base C.T false 0 4 "need_kind" ["size", "kind"] S_need_kind := (by rw [hT]; exact F_need_kind); have F_is_cells : DFn P w K mg base C.T false 0 2 "is_cells" ["size", "value"] S_is_cells := (by rw [hT]; exact F_is_cells); have F_row_at : DFn P w K mg base C.T false 0 3 "row_at" ["size", "kind", "key"] S_row_at := (by rw [hT]; exact F_row_at); have hr_need_size := hr.mono (show 2 ≤ 4 by decide); have gd_need_size : false = true → C.gd = true := fun h => (by cases h); have hr_need_kind := hr.mono (show 4 ≤ 4 by decide); have gd_need_kind : false = true → C.gd = true := fun h => (by cases h); have hr_is_cells := hr.mono (show 2 ≤ 4 by decide); have gd_is_cells : false = true → C.gd = true := fun h => (by cases h); have hr_row_at := hr.mono (show 3 ≤ 4 by decide); have gd_row_at : false = true → C.gd = true := fun h => (by cases h); exact (dss_cons (ds_expr (de_call F_need_size xc gd_need_size hr_need_size (da_cons (de_var 0) da_nil)))
  (dss_cons (ds_expr (de_call F_need_kind xc gd_need_kind hr_need_kind (da_cons (de_var 0) (da_cons (de_var 1) da_nil))))
  (dss_cons (ds_if (dt_cmp (dop_eq xc) (de_ix xc (de_var 1) de_int) de_str)
  (dss_one (ds_raise xc T.e_BadKind))
  dss_nil)
  (dss_cons (ds_if (dt_not (dt_val (de_call F_is_cells xc gd_is_cells hr_is_cells (da_cons (de_var 0) (da_cons (de_var 2) da_nil)))))
  (dss_one (ds_raise xc T.e_BadRow))
  dss_nil)
  (dss_cons (ds_set 3 sc_number_with.nd (de_ix xc (de_var 2) de_int))
  (dss_cons (ds_if (dt_w (dw_and (dt_cmp (dop_eq xc) (de_ix xc (de_var 1) de_int) de_str) (dw_and1 (dt_cmp dop_gt (de_b1 (dcall_len xc) T.b_len (by decide +kernel) (de_var 2) xc) de_int))))
  (dss_one (ds_aug 3 sc_number_with.nd dip_add (de_bin dop_mul (de_bin dop_sub (de_bin dop_mod (de_bin dop_sub (de_ix xc (de_var 2) de_int) (de_ix xc (de_var 2) de_int)) (de_var 0)) de_int) (de_var 0))))
  dss_nil)
  (dss_one (ds_mark (ds_frz 3 (ds_ret (de_if (dt_cmp (dop_eq xc) (de_call F_row_at xc gd_row_at hr_row_at (da_cons (de_var 0) (da_cons (de_var 1) (da_cons (de_tup (da_cons de_str (da_cons (de_var 3) da_nil))) da_nil)))) (de_var 2)) (de_var 3) de_none)))))))))))) ?_
  intro ss Q E hl h
  unfold S_number_with at h
  split at h
  · rename_i k z k2 kd k3 row
    obtain ⟨s, n, K, rfl, s1, s2, rfl, ok, rfl, hn, h⟩ := h
    refine .inl ⟨whole_yes (by omega) (by omega), ?_⟩
    refine ⟨K, rfl, ok, ?_⟩
    have le := least_le K s n
    cases K with
    | own =>
      refine ⟨(_ : D), rfl, ?_⟩
      refine ⟨rfl, ?_⟩
      refine ⟨s, rowN .own s n, rfl, s2, rfl, row_ne .own n s1, rowN_lt s1, rowN_nodup .own s n, ?_⟩
      refine ⟨_, at_head .own n s1, ?_⟩
      refine ⟨(_ : D), rfl, ?_⟩
      refine ⟨rfl, ?_⟩
      have ll : ((rowN .own s n).map fun x => PyData.int (x : Nat)).length = (rowN .own s n).length := by rw [List.length_map]
      by_cases c : s > 1
      · obtain ⟨t, et⟩ := row_two n c
        have l2 : 2 ≤ (rowN .own s n).length := by rw [et]; show 2 ≤ t.length + 1 + 1; omega
        refine if_t (b := decide ((((rowN .own s n).map fun x => PyData.int (x : Nat)).length : Int) > 1)) (decide_eq_true (by omega)) ?_
        refine ⟨_, at_next n c, _, at_head .own n s1, trivial, show ((s : Nat) : Int) ≠ 0 by omega, trivial, .inr ⟨by omega, by omega⟩, trivial, ?_⟩
        have el : leastN .own s n = n % s + (stepN s n - 1) * s := if_pos c
        have a1 := (step_lt' (n := n) c).1
        refine Mark.at (ρ' := [some (.d k (.int (s : Nat))), some (.d k2 (Kd.data .own)), some (.d k3 (.tuple ((rowN .own s n).map fun x => PyData.int (x : Nat)))), some (.d false (.int (leastN .own s n : Nat)))]) (by
          show [_, _, _, some (SV.d false (.int (((n % s : Nat) : Int) + (((((n % s + stepN s n) % s : Nat) : Int) - ((n % s : Nat) : Int)).fmod ((s : Nat) : Int) - 1) * ((s : Nat) : Int))))] = _
          rw [two_step c, el, Int.natCast_add, Int.natCast_mul, show ((stepN s n - 1 : Nat) : Int) = (stepN s n : Nat) - 1 by omega]) ?_
        refine ⟨s, leastN .own s n, .own, "a", rfl, s1, by omega, rfl, ok, rfl, by decide, by omega, ?_⟩
        refine ⟨eqOk_cells _ _, ?_⟩
        refine if_t (b := PyData.eqv (.tuple ((rowN .own s (leastN .own s n)).map fun x => PyData.int (x : Nat))) (.tuple ((rowN .own s n).map fun x => PyData.int (x : Nat)))) (by rw [eqv_cells]; exact decide_eq_true (least_row .own n s1)) ?_
        exact h _
      · have rm := row_max .own s1 n
        refine if_f (b := decide ((((rowN .own s n).map fun x => PyData.int (x : Nat)).length : Int) > 1)) (decide_eq_false (by omega)) ?_
        have el : leastN .own s n = n % s := if_neg c
        rw [← el]
        refine Mark.at (ρ' := [some (.d k (.int (s : Nat))), some (.d k2 (Kd.data .own)), some (.d k3 (.tuple ((rowN .own s n).map fun x => PyData.int (x : Nat)))), some (.d k3 (.int (leastN .own s n : Nat)))]) rfl ?_
        refine ⟨s, leastN .own s n, .own, "a", rfl, s1, by omega, rfl, ok, rfl, by decide, by omega, ?_⟩
        refine ⟨eqOk_cells _ _, ?_⟩
        refine if_t (b := PyData.eqv (.tuple ((rowN .own s (leastN .own s n)).map fun x => PyData.int (x : Nat))) (.tuple ((rowN .own s n).map fun x => PyData.int (x : Nat)))) (by rw [eqv_cells]; exact decide_eq_true (least_row .own n s1)) ?_
        exact h _
    | by_ a =>
      refine ⟨(_ : D), rfl, ?_⟩
      refine ⟨rfl, ?_⟩
      refine ⟨s, rowN (Kd.by_ a) s n, rfl, s2, rfl, row_ne (Kd.by_ a) n s1, rowN_lt s1, rowN_nodup (Kd.by_ a) s n, ?_⟩
      refine ⟨_, at_head (Kd.by_ a) n s1, ?_⟩
      refine ⟨(_ : D), rfl, ?_⟩
      refine ⟨rfl, ?_⟩
      refine Mark.at (ρ' := [some (.d k (.int (s : Nat))), some (.d k2 (Kd.data (Kd.by_ a))), some (.d k3 (.tuple ((rowN (Kd.by_ a) s n).map fun x => PyData.int (x : Nat)))), some (.d k3 (.int (n % s : Nat)))]) rfl ?_
      refine ⟨s, n % s, (Kd.by_ a), "a", rfl, s1, by omega, rfl, ok, rfl, by decide, by have : n % s ≤ n := le; omega, ?_⟩
      refine ⟨eqOk_cells _ _, ?_⟩
      refine if_t (b := PyData.eqv (.tuple ((rowN (Kd.by_ a) s (n % s)).map fun x => PyData.int (x : Nat))) (.tuple ((rowN (Kd.by_ a) s n).map fun x => PyData.int (x : Nat)))) (by rw [eqv_cells]; exact decide_eq_true (least_row (Kd.by_ a) n s1)) ?_
      exact h _
    | tri =>
      refine ⟨(_ : D), rfl, ?_⟩
      refine ⟨rfl, ?_⟩
      refine ⟨s, rowN Kd.tri s n, rfl, s2, rfl, row_ne Kd.tri n s1, rowN_lt s1, rowN_nodup Kd.tri s n, ?_⟩
      refine ⟨_, at_head Kd.tri n s1, ?_⟩
      refine ⟨(_ : D), rfl, ?_⟩
      refine ⟨rfl, ?_⟩
      refine Mark.at (ρ' := [some (.d k (.int (s : Nat))), some (.d k2 (Kd.data Kd.tri)), some (.d k3 (.tuple ((rowN Kd.tri s n).map fun x => PyData.int (x : Nat)))), some (.d k3 (.int (n % s : Nat)))]) rfl ?_
      refine ⟨s, n % s, Kd.tri, "a", rfl, s1, by omega, rfl, ok, rfl, by decide, by have : n % s ≤ n := le; omega, ?_⟩
      refine ⟨eqOk_cells _ _, ?_⟩
      refine if_t (b := PyData.eqv (.tuple ((rowN Kd.tri s (n % s)).map fun x => PyData.int (x : Nat))) (.tuple ((rowN Kd.tri s n).map fun x => PyData.int (x : Nat)))) (by rw [eqv_cells]; exact decide_eq_true (least_row Kd.tri n s1)) ?_
      exact h _
    | sq b c =>
      refine ⟨(_ : D), rfl, ?_⟩
      refine ⟨rfl, ?_⟩
      refine ⟨s, rowN (Kd.sq b c) s n, rfl, s2, rfl, row_ne (Kd.sq b c) n s1, rowN_lt s1, rowN_nodup (Kd.sq b c) s n, ?_⟩
      refine ⟨_, at_head (Kd.sq b c) n s1, ?_⟩
      refine ⟨(_ : D), rfl, ?_⟩
      refine ⟨rfl, ?_⟩
      refine Mark.at (ρ' := [some (.d k (.int (s : Nat))), some (.d k2 (Kd.data (Kd.sq b c))), some (.d k3 (.tuple ((rowN (Kd.sq b c) s n).map fun x => PyData.int (x : Nat)))), some (.d k3 (.int (n % s : Nat)))]) rfl ?_
      refine ⟨s, n % s, (Kd.sq b c), "a", rfl, s1, by omega, rfl, ok, rfl, by decide, by have : n % s ≤ n := le; omega, ?_⟩
      refine ⟨eqOk_cells _ _, ?_⟩
      refine if_t (b := PyData.eqv (.tuple ((rowN (Kd.sq b c) s (n % s)).map fun x => PyData.int (x : Nat))) (.tuple ((rowN (Kd.sq b c) s n).map fun x => PyData.int (x : Nat)))) (by rw [eqv_cells]; exact decide_eq_true (least_row (Kd.sq b c) n s1)) ?_
      exact h _
  · exact h.elim
abbrev s__law_turned : Stmt := top 64
theorem sc__law_turned : FnScope ["state", "size", "kind", "key", "row", "cells", "cell", "spot"] ["state", "size", "kind", "key", "row"] (defScope s__law_turned) := ⟨rfl, rfl, rfl, by decide +kernel, rfl, by decide +kernel, by decide +kernel⟩
def S__law_turned : FS := fun ss Q E => match ss with
  | [.st, .d _ (.int i), .d _ kd, .d _ key, .d _ row] => ∃ (s n : Nat) (K : Kd) (x : Str), i = (s : Nat) ∧ 1 ≤ s ∧ s ≤ 1000 ∧ kd = K.data ∧ K.ok ∧ key = keyD x n ∧ x ∈ NMS ∧ n ≤ 4294967295 ∧ row = .tuple ((rowN K s n).map fun x => .int (x : Nat)) ∧ Q (.d false (.bool true))
  | _ => False
theorem f__law_turned (T : Tx K mg) (F__law_shuffled : DFn P w K mg base TT false 33554432 3 "_law_shuffled" ["state", "some"] S__law_shuffled) (F_place_in : DFn P w K mg base TT false 0 6 "place_in" ["size", "kind", "key", "cell"] S_place_in) : DFn P w K mg base TT false 67108864 7 "_law_turned" ["state", "size", "kind", "key", "row"] S__law_turned := by
  refine dfn (N := ["state", "size", "kind", "key", "row", "cells", "cell", "spot"]) T.ft__law_turned sc__law_turned (fun a cdv A out s H E C xc hg hT hr => by
    have F__law_shuffled : DFn P w K mg base C.T false 33554432 3 "_law_shuffled" ["state", "some"] S__law_shuffled := (by rw [hT]; exact F__law_shuffled); have F_place_in : DFn P w K mg base C.T false 0 6 "place_in" ["size", "kind", "key", "cell"] S_place_in := (by rw [hT]; exact F_place_in); have hr__law_shuffled := hr.mono (show 3 ≤ 6 by decide); have gd__law_shuffled : false = true → C.gd = true := fun h => (by cases h); have hr_place_in := hr.mono (show 6 ≤ 6 by decide); have gd_place_in : false = true → C.gd = true := fun h => (by cases h); exact (dss_cons (ds_set 5 sc__law_turned.nd (de_bin (dop_add xc) (de_sl xc (de_call F__law_shuffled xc gd__law_shuffled hr__law_shuffled (da_cons (de_var 0) (da_cons (de_lr1 xc T.b_range T.b_list (de_var 1)) da_nil))) do_none (do_some de_int)) (de_lst (da_cons (de_ix xc (de_var 4) de_int) (da_cons (de_ix xc (de_var 4) (de_bin dop_sub (de_b1 (dcall_len xc) T.b_len (by decide +kernel) (de_var 4) xc) de_int)) da_nil)))))
  (dss_cons (ds_frz 5 (ds_for xc (di_or (di_list xc (de_var 5)) (di_tup xc (de_var 5))) (dg_name (vs := [0, 1, 2, 3, 4, 5, 6, 7]) 6 sc__law_turned.nd)
  (dss_cons (ds_set 7 sc__law_turned.nd (de_call F_place_in xc gd_place_in hr_place_in (da_cons (de_var 1) (da_cons (de_var 2) (da_cons (de_var 3) (da_cons (de_var 6) da_nil))))))
  (dss_one (ds_frz 7 (ds_if (dt_w (dw_or (dt_cmp (dop_ne xc) (de_cmp dop_is (de_var 7) de_none) (de_cmp (dop_notIn xc) (de_var 6) (de_var 4))) (dw_or1 (dt_w (dw_and (dt_cmp dop_isNot (de_var 7) de_none) (dw_and1 (dt_cmp (dop_ne xc) (de_ix xc (de_var 4) (de_var 7)) (de_var 6))))))))
  (dss_one (ds_ret de_bool))
  dss_nil))))))
  (dss_one (ds_ret de_bool))))) ?_
  intro ss Q E hl h
  unfold S__law_turned at h
  split at h
  · rename_i k z k2 kd k3 key k4 row
    obtain ⟨s, n, K, x, rfl, s1, s2, rfl, ok, rfl, hx, hn, rfl, h⟩ := h
    refine ⟨by omega, by omega, ?_⟩
    refine ⟨by rw [List.length_map, List.length_range]; omega, fun y hy => ?_, fun ys hp kk => ?_⟩
    · obtain ⟨j, _, rfl⟩ := List.mem_map.mp hy
      exact flat_int _
    obtain ⟨cl, hcl, ecl⟩ := at_last K n s1
    have lys : ys.length = s := by
      have := hp.length_eq
      rw [List.length_map, List.length_range] at this
      omega
    have lc := len_cut ys none (some 40)
    refine ⟨_, at_head K n s1, trivial, _, ecl, ?_⟩
    refine ⟨by show (DL.cutD ys none (some 40)).length + 2 ≤ _; rw [sizeLine_eq]; omega, ?_⟩
    have good : ∀ d ∈ DL.cutD ys none (some 40) ++ [PyData.int (n % s : Nat), .int (cl : Nat)], ∃ c : Nat, d = .int (c : Nat) ∧ c < s := fun d hd => by
      rcases List.mem_append.mp hd with q | q
      · obtain ⟨j, hj, rfl⟩ := List.mem_map.mp (hp.mem_iff.mp (mem_cut q))
        have := List.mem_range.mp hj
        exact ⟨j, rfl, by omega⟩
      · simp only [List.mem_cons, List.not_mem_nil, or_false] at q
        rcases q with rfl | rfl
        · exact ⟨_, rfl, Nat.mod_lt _ s1⟩
        · exact ⟨_, rfl, rowN_lt s1 _ hcl⟩
    generalize DL.cutD ys none (some 40) ++ [PyData.int (n % s : Nat), .int (cl : Nat)] = L at good
    refine .inl ?_
    refine for_ind (fun ss ρ => ∃ (w : List D) (kf : Bool) (a6 a7 : Option SV), ss = w.map (.d kf) ∧ (∀ d ∈ w, ∃ c : Nat, d = .int (c : Nat) ∧ c < s) ∧ ρ = [some .st, some (.d k (.int (s : Nat))), some (.d k2 K.data), some (.d k3 (keyD x n)), some (.d k4 (.tuple ((rowN K s n).map fun x => PyData.int (x : Nat)))), some (.d kf (.list L)), a6, a7]) ?_ ?_ _ _ ⟨L, _, none, none, rfl, good, rfl⟩
    · rintro v t ρ ⟨w, kf, a6, a7, hs, hw, rfl⟩ J hJ
      cases w with
      | nil => cases hs
      | cons d w =>
        injection hs with hs1 hs2
        subst hs1; subst hs2
        obtain ⟨c, rfl, hc⟩ := hw d List.mem_cons_self
        by_cases inn : c ∈ rowN K s n
        · obtain ⟨j, e1, e2⟩ := at_first inn
          refine ⟨s, n, K, x, c, rfl, s1, by omega, rfl, ok, rfl, hx, hn, rfl, hc, .inr ⟨j, e1, e2, ?_⟩⟩
          refine ⟨shaped_int _, shaped_tup _, rfl, ?_⟩
          refine if_f (b := !(PyData.eqv (.bool false) (.bool (!(((rowN K s n).map fun x => PyData.int (x : Nat)).any fun z => PyData.eqv z (.int (c : Nat))))))) (by rw [any_ints, decide_eq_true inn, show (!true) = false from rfl, eqv_bool]; rfl) ?_
          refine ⟨PyData.int (c : Nat), by rw [at_nat, List.getElem?_map, e1]; rfl, rfl, ?_⟩
          refine if_f (b := !(PyData.eqv (.int (c : Nat)) (.int (c : Nat)))) (by rw [eqv_int]; rfl) ?_
          exact hJ _ ⟨w, kf, _, _, rfl, fun d hd => hw d (List.mem_cons_of_mem _ hd), rfl⟩
        · refine ⟨s, n, K, x, c, rfl, s1, by omega, rfl, ok, rfl, hx, hn, rfl, hc, .inl ⟨inn, ?_⟩⟩
          refine ⟨shaped_int _, shaped_tup _, rfl, ?_⟩
          refine if_f (b := !(PyData.eqv (.bool true) (.bool (!(((rowN K s n).map fun x => PyData.int (x : Nat)).any fun z => PyData.eqv z (.int (c : Nat))))))) (by rw [any_ints, decide_eq_false inn, show (!false) = true from rfl, eqv_bool]; rfl) ?_
          exact hJ _ ⟨w, kf, _, _, rfl, fun d hd => hw d (List.mem_cons_of_mem _ hd), rfl⟩
    · rintro ρ ⟨w, kf, a6, a7, hs, hw, rfl⟩
      exact h
  · exact h.elim
abbrev s__law_beside : Stmt := top 65
theorem sc__law_beside : FnScope ["size", "kind", "number", "row", "period", "other", "cell"] ["size", "kind", "number", "row"] (defScope s__law_beside) := ⟨rfl, rfl, rfl, by decide +kernel, rfl, by decide +kernel, by decide +kernel⟩
def S__law_beside : FS := fun ss Q E => match ss with
  | [.d _ (.int i), .d _ kd, .d _ (.int j), .d _ row] => ∃ (s n : Nat) (K : Kd), i = (s : Nat) ∧ 1 ≤ s ∧ s ≤ 1000 ∧ kd = K.data ∧ K.ok ∧ j = (n : Nat) ∧ n ≤ 4294967295 ∧ row = .tuple ((rowN K s n).map fun x => .int (x : Nat)) ∧ Q (.d false (.bool true))
  | _ => False
theorem f__law_beside (T : Tx K mg) (F_row_of : DFn P w K mg base TT false 0 6 "row_of" ["size", "kind", "key"] S_row_of) : DFn P w K mg base TT false 0 7 "_law_beside" ["size", "kind", "number", "row"] S__law_beside := by
  refine dfn (N := ["size", "kind", "number", "row", "period", "other", "cell"]) T.ft__law_beside sc__law_beside (fun a cdv A out s H E C xc hg hT hr => by
    have F_row_of : DFn P w K mg base C.T false 0 6 "row_of" ["size", "kind", "key"] S_row_of := (by rw [hT]; exact F_row_of); have hr_row_of := hr.mono (show 6 ≤ 6 by decide); have gd_row_of : false = true → C.gd = true := fun h => (by cases h); exact (dss_cons (ds_set 4 sc__law_beside.nd (de_if (dt_cmp (dop_eq xc) (de_ix xc (de_var 1) de_int) de_str) (de_bin dop_mul (de_var 0) (de_b2 (dcall_max xc) T.b_max (by decide +kernel) de_int (de_bin dop_sub (de_var 0) de_int) xc)) (de_var 0)))
  (dss_cons (ds_mark (ds_frz 4 (ds_for xc (di_list xc (de_lst (da_cons (de_bin (dop_add xc) (de_var 2) (de_var 4)) (da_cons (de_bin dop_sub (de_var 2) (de_var 4)) (da_cons (de_bin dop_mod (de_t1 (dcall_int) T.b_int boot_int (de_var 2) xc) (de_var 4)) (da_cons (de_bin (dop_add xc) (de_var 2) (de_bin dop_mul de_int (de_var 4))) da_nil)))))) (dg_name (vs := [0, 1, 2, 3, 4, 5, 6]) 5 sc__law_beside.nd)
  (dss_one (ds_if (dt_w (dw_and (dt_chain dop_le dop_lt de_int (de_var 5) (de_bin dop_pow de_int de_int)) (dw_and1 (dt_cmp (dop_ne xc) (de_call F_row_of xc gd_row_of hr_row_of (da_cons (de_var 0) (da_cons (de_var 1) (da_cons (de_tup (da_cons de_str (da_cons (de_var 5) da_nil))) da_nil)))) (de_var 3)))))
  (dss_one (ds_ret de_bool))
  dss_nil)))))
  (dss_cons (ds_if (dt_w (dw_and (dt_cmp (dop_ne xc) (de_bin dop_mod (de_t1 (dcall_int) T.b_int boot_int (de_bin (dop_add xc) (de_var 2) de_int) xc) (de_var 0)) de_int) (dw_and1 (dt_cmp dop_lt (de_bin (dop_add xc) (de_var 2) de_int) (de_bin dop_pow de_int de_int)))))
  (dss_one (ds_ret (de_cmp (dop_eq xc) (de_call F_row_of xc gd_row_of hr_row_of (da_cons (de_var 0) (da_cons (de_var 1) (da_cons (de_tup (da_cons de_str (da_cons (de_bin (dop_add xc) (de_var 2) de_int) da_nil))) da_nil)))) (de_t1 (dcall_tuple xc) T.b_tuple boot_tuple (de_lc (own := [("cell", 6)]) xc sc__law_beside.nd (di_or (di_list xc (de_var 3)) (di_tup xc (de_var 3))) (blkOk_by (own := [("cell", 6)]) (N := ["size", "kind", "number", "row", "period", "other", "cell"]) (sc := defScope s__law_beside) (by decide +kernel)) (fun _ _ _ _ _ => (dg_name (vs := ([("cell", 6)] : List (Str × Nat)).map (·.2)) 6 sc__law_beside.nd)) (fun _ _ _ _ _ => dts_nil) (fun _ _ _ _ _ => (de_bin dop_mod (de_t1 (dcall_int) T.b_int boot_int (de_bin (dop_add (xc.blk)) (de_var 6) de_int) (xc.blk)) (de_var 0)))) xc))))
  dss_nil)
  (dss_one (ds_ret de_bool)))))) ?_
  intro ss Q E hl h
  unfold S__law_beside at h
  split at h
  · rename_i k z k2 kd k3 j k4 row
    obtain ⟨s, n, K, rfl, s1, s2, rfl, ok, rfl, hn, rfl, h⟩ := h
    have ps := per_same (K := K) (n := n) s1
    have pp := per_pos K s1
    have c32 : CPow 2 32 := ⟨by decide, by decide, by decide⟩
    have p32 : (2 : Int) ^ (32 : Int).toNat = 4294967296 := by decide
    cases K with
    | by_ a =>
      refine ⟨(_ : D), rfl, ?_⟩
      refine ⟨rfl, ?_⟩
      refine Mark.at (ρ' := [some (.d k (.int (s : Nat))), some (.d k2 (Kd.data (.by_ a))), some (.d k3 (.int (n : Nat))), some (.d k4 (.tuple ((rowN (.by_ a) s n).map fun x => PyData.int (x : Nat)))), some (.d k (.int (perN (.by_ a) s : Nat))), none, none]) rfl ?_
      refine ⟨trivial, show ((perN (.by_ a) s : Nat) : Int) ≠ 0 by omega, .inl ⟨by decide, by decide⟩, ?_⟩
      refine for_ind (fun ss ρ => ∃ (w : List Int) (kf : Bool) (a5 : Option SV), ss = w.map (fun z => SV.d kf (.int z)) ∧ (∀ z ∈ w, 0 ≤ z → ∃ m : Nat, z = (m : Nat) ∧ rowN (.by_ a) s m = rowN (.by_ a) s n) ∧ (a5 = none ∨ ∃ z, a5 = some (.d kf (.int z))) ∧ ρ = [some (.d k (.int (s : Nat))), some (.d k2 (Kd.data (.by_ a))), some (.d k3 (.int (n : Nat))), some (.d k4 (.tuple ((rowN (.by_ a) s n).map fun x => PyData.int (x : Nat)))), some (.d k (.int (perN (.by_ a) s : Nat))), a5, none]) ?_ ?_ _ _ ⟨[((n : Nat) : Int) + ((perN (.by_ a) s : Nat) : Int), ((n : Nat) : Int) - ((perN (.by_ a) s : Nat) : Int), ((n : Nat) : Int).fmod ((perN (.by_ a) s : Nat) : Int), ((n : Nat) : Int) + 7 * ((perN (.by_ a) s : Nat) : Int)], false, none, rfl, ps, .inl rfl, rfl⟩
      · rintro v t ρ ⟨w, kf, a5, hs, hw, h5, rfl⟩ J hJ
        cases w with
        | nil => cases hs
        | cons z w =>
          injection hs with hs1 hs2
          subst hs1; subst hs2
          have done : J [some (.d k (.int (s : Nat))), some (.d k2 (Kd.data (.by_ a))), some (.d k3 (.int (n : Nat))), some (.d k4 (.tuple ((rowN (.by_ a) s n).map fun x => PyData.int (x : Nat)))), some (.d k (.int (perN (.by_ a) s : Nat))), some (.d kf (.int z)), none] := hJ _ ⟨w, kf, _, rfl, fun z hz => hw z (List.mem_cons_of_mem _ hz), .inr ⟨z, rfl⟩, rfl⟩
          by_cases c1 : 0 ≤ z
          · refine if_t (b := decide ((0 : Int) ≤ z)) (decide_eq_true c1) ?_
            refine ⟨c32, ?_⟩
            by_cases c2 : z < (2 : Int) ^ (32 : Int).toNat
            · refine if_t (b := decide (z < (2 : Int) ^ (32 : Int).toNat)) (decide_eq_true c2) ?_
              obtain ⟨m, rfl, e⟩ := hw z List.mem_cons_self c1
              rw [p32] at c2
              refine ⟨s, m, (.by_ a), "zz", rfl, s1, by omega, rfl, ok, rfl, by decide, by omega, ?_⟩
              refine ⟨eqOk_cells _ _, ?_⟩
              refine if_f (b := !(PyData.eqv (.tuple ((rowN (.by_ a) s m).map fun x => PyData.int (x : Nat))) (.tuple ((rowN (.by_ a) s n).map fun x => PyData.int (x : Nat))))) (by rw [eqv_cells, decide_eq_true e]; rfl) ?_
              exact done
            · refine if_f (b := decide (z < (2 : Int) ^ (32 : Int).toNat)) (decide_eq_false c2) ?_
              exact done
          · refine if_f (b := decide ((0 : Int) ≤ z)) (decide_eq_false c1) ?_
            exact done
      · rintro ρ ⟨w, kf, a5, hs, hw, h5, rfl⟩
        obtain ⟨N, hN⟩ : ∃ N : Int, N = ((n : Nat) : Int) := ⟨_, rfl⟩
        rw [← hN]
        refine ⟨show ((s : Nat) : Int) ≠ 0 by omega, rfl, ?_⟩
        by_cases z0 : (n + 1) % s = 0
        · refine if_f (b := !(PyData.eqv (.int ((N + 1).fmod ((s : Nat) : Int))) (.int 0))) (by rw [hN, next_mod, decide_eq_true z0]; rfl) ?_
          exact h
        · refine if_t (b := !(PyData.eqv (.int ((N + 1).fmod ((s : Nat) : Int))) (.int 0))) (by rw [hN, next_mod, decide_eq_false z0]; rfl) ?_
          refine ⟨c32, ?_⟩
          refine if_dec (fun c2 => ?_) fun c2 => ?_
          · have c2 : N + 1 < (2 : Int) ^ (32 : Int).toNat := c2
            rw [p32] at c2
            refine ⟨s, n + 1, (.by_ a), "zz", rfl, s1, by omega, rfl, ok, by rw [hN]; rfl, by decide, by omega, ?_⟩
            refine .inr ?_
            rcases h5 with rfl | ⟨z, rfl⟩ <;>
            · refine comp_ind (fun ss kk acc => ∃ u w : List Nat, ss = w.map (fun x => SV.d k4 (.int (x : Nat))) ∧ acc = (u.map fun c => (c + 1) % s).map (fun x => PyData.int (x : Nat)) ∧ u ++ w = rowN (.by_ a) s n) ?_ ?_ _ _ _ ⟨[], rowN (.by_ a) s n, by rw [List.map_map]; rfl, rfl, rfl⟩
              · rintro v t kk acc ⟨u, w, hs, rfl, he⟩ J hJ
                cases w with
                | nil => cases hs
                | cons c w =>
                  injection hs with hs1 hs2
                  subst hs1; subst hs2
                  refine ⟨show ((s : Nat) : Int) ≠ 0 by omega, ?_⟩
                  refine hJ _ _ ⟨u ++ [c], w, rfl, ?_, by rw [← he, List.append_assoc]; rfl⟩
                  rw [List.map_append, List.map_append]
                  show _ ++ [PyData.int ((((c : Nat) : Int) + 1).fmod ((s : Nat) : Int))] = _ ++ [PyData.int (((c + 1) % s : Nat) : Int)]
                  rw [← nat_fmod, Int.natCast_add]
                  rfl
              · rintro kk acc ⟨u, w, hs, rfl, he⟩
                have hb : w = [] := by
                  cases w with
                  | nil => rfl
                  | cons x w => cases hs
                subst hb
                rw [List.append_nil] at he
                subst he
                refine ⟨eqOk_cells _ _, ?_⟩
                exact Q_bool (i := PyData.eqv (.tuple ((rowN (.by_ a) s (n + 1)).map fun x => PyData.int (x : Nat))) (.tuple (((rowN (.by_ a) s n).map fun c => (c + 1) % s).map fun x => PyData.int (x : Nat)))) (by rw [eqv_cells]; exact decide_eq_true (row_shift s1 z0)) h
          · exact h
    | tri =>
      refine ⟨(_ : D), rfl, ?_⟩
      refine ⟨rfl, ?_⟩
      refine Mark.at (ρ' := [some (.d k (.int (s : Nat))), some (.d k2 (Kd.data .tri)), some (.d k3 (.int (n : Nat))), some (.d k4 (.tuple ((rowN .tri s n).map fun x => PyData.int (x : Nat)))), some (.d k (.int (perN .tri s : Nat))), none, none]) rfl ?_
      refine ⟨trivial, show ((perN .tri s : Nat) : Int) ≠ 0 by omega, .inl ⟨by decide, by decide⟩, ?_⟩
      refine for_ind (fun ss ρ => ∃ (w : List Int) (kf : Bool) (a5 : Option SV), ss = w.map (fun z => SV.d kf (.int z)) ∧ (∀ z ∈ w, 0 ≤ z → ∃ m : Nat, z = (m : Nat) ∧ rowN .tri s m = rowN .tri s n) ∧ (a5 = none ∨ ∃ z, a5 = some (.d kf (.int z))) ∧ ρ = [some (.d k (.int (s : Nat))), some (.d k2 (Kd.data .tri)), some (.d k3 (.int (n : Nat))), some (.d k4 (.tuple ((rowN .tri s n).map fun x => PyData.int (x : Nat)))), some (.d k (.int (perN .tri s : Nat))), a5, none]) ?_ ?_ _ _ ⟨[((n : Nat) : Int) + ((perN .tri s : Nat) : Int), ((n : Nat) : Int) - ((perN .tri s : Nat) : Int), ((n : Nat) : Int).fmod ((perN .tri s : Nat) : Int), ((n : Nat) : Int) + 7 * ((perN .tri s : Nat) : Int)], false, none, rfl, ps, .inl rfl, rfl⟩
      · rintro v t ρ ⟨w, kf, a5, hs, hw, h5, rfl⟩ J hJ
        cases w with
        | nil => cases hs
        | cons z w =>
          injection hs with hs1 hs2
          subst hs1; subst hs2
          have done : J [some (.d k (.int (s : Nat))), some (.d k2 (Kd.data .tri)), some (.d k3 (.int (n : Nat))), some (.d k4 (.tuple ((rowN .tri s n).map fun x => PyData.int (x : Nat)))), some (.d k (.int (perN .tri s : Nat))), some (.d kf (.int z)), none] := hJ _ ⟨w, kf, _, rfl, fun z hz => hw z (List.mem_cons_of_mem _ hz), .inr ⟨z, rfl⟩, rfl⟩
          by_cases c1 : 0 ≤ z
          · refine if_t (b := decide ((0 : Int) ≤ z)) (decide_eq_true c1) ?_
            refine ⟨c32, ?_⟩
            by_cases c2 : z < (2 : Int) ^ (32 : Int).toNat
            · refine if_t (b := decide (z < (2 : Int) ^ (32 : Int).toNat)) (decide_eq_true c2) ?_
              obtain ⟨m, rfl, e⟩ := hw z List.mem_cons_self c1
              rw [p32] at c2
              refine ⟨s, m, .tri, "zz", rfl, s1, by omega, rfl, ok, rfl, by decide, by omega, ?_⟩
              refine ⟨eqOk_cells _ _, ?_⟩
              refine if_f (b := !(PyData.eqv (.tuple ((rowN .tri s m).map fun x => PyData.int (x : Nat))) (.tuple ((rowN .tri s n).map fun x => PyData.int (x : Nat))))) (by rw [eqv_cells, decide_eq_true e]; rfl) ?_
              exact done
            · refine if_f (b := decide (z < (2 : Int) ^ (32 : Int).toNat)) (decide_eq_false c2) ?_
              exact done
          · refine if_f (b := decide ((0 : Int) ≤ z)) (decide_eq_false c1) ?_
            exact done
      · rintro ρ ⟨w, kf, a5, hs, hw, h5, rfl⟩
        obtain ⟨N, hN⟩ : ∃ N : Int, N = ((n : Nat) : Int) := ⟨_, rfl⟩
        rw [← hN]
        refine ⟨show ((s : Nat) : Int) ≠ 0 by omega, rfl, ?_⟩
        by_cases z0 : (n + 1) % s = 0
        · refine if_f (b := !(PyData.eqv (.int ((N + 1).fmod ((s : Nat) : Int))) (.int 0))) (by rw [hN, next_mod, decide_eq_true z0]; rfl) ?_
          exact h
        · refine if_t (b := !(PyData.eqv (.int ((N + 1).fmod ((s : Nat) : Int))) (.int 0))) (by rw [hN, next_mod, decide_eq_false z0]; rfl) ?_
          refine ⟨c32, ?_⟩
          refine if_dec (fun c2 => ?_) fun c2 => ?_
          · have c2 : N + 1 < (2 : Int) ^ (32 : Int).toNat := c2
            rw [p32] at c2
            refine ⟨s, n + 1, .tri, "zz", rfl, s1, by omega, rfl, ok, by rw [hN]; rfl, by decide, by omega, ?_⟩
            refine .inr ?_
            rcases h5 with rfl | ⟨z, rfl⟩ <;>
            · refine comp_ind (fun ss kk acc => ∃ u w : List Nat, ss = w.map (fun x => SV.d k4 (.int (x : Nat))) ∧ acc = (u.map fun c => (c + 1) % s).map (fun x => PyData.int (x : Nat)) ∧ u ++ w = rowN .tri s n) ?_ ?_ _ _ _ ⟨[], rowN .tri s n, by rw [List.map_map]; rfl, rfl, rfl⟩
              · rintro v t kk acc ⟨u, w, hs, rfl, he⟩ J hJ
                cases w with
                | nil => cases hs
                | cons c w =>
                  injection hs with hs1 hs2
                  subst hs1; subst hs2
                  refine ⟨show ((s : Nat) : Int) ≠ 0 by omega, ?_⟩
                  refine hJ _ _ ⟨u ++ [c], w, rfl, ?_, by rw [← he, List.append_assoc]; rfl⟩
                  rw [List.map_append, List.map_append]
                  show _ ++ [PyData.int ((((c : Nat) : Int) + 1).fmod ((s : Nat) : Int))] = _ ++ [PyData.int (((c + 1) % s : Nat) : Int)]
                  rw [← nat_fmod, Int.natCast_add]
                  rfl
              · rintro kk acc ⟨u, w, hs, rfl, he⟩
                have hb : w = [] := by
                  cases w with
                  | nil => rfl
                  | cons x w => cases hs
                subst hb
                rw [List.append_nil] at he
                subst he
                refine ⟨eqOk_cells _ _, ?_⟩
                exact Q_bool (i := PyData.eqv (.tuple ((rowN .tri s (n + 1)).map fun x => PyData.int (x : Nat))) (.tuple (((rowN .tri s n).map fun c => (c + 1) % s).map fun x => PyData.int (x : Nat)))) (by rw [eqv_cells]; exact decide_eq_true (row_shift s1 z0)) h
          · exact h
    | sq b c =>
      refine ⟨(_ : D), rfl, ?_⟩
      refine ⟨rfl, ?_⟩
      refine Mark.at (ρ' := [some (.d k (.int (s : Nat))), some (.d k2 (Kd.data (.sq b c))), some (.d k3 (.int (n : Nat))), some (.d k4 (.tuple ((rowN (.sq b c) s n).map fun x => PyData.int (x : Nat)))), some (.d k (.int (perN (.sq b c) s : Nat))), none, none]) rfl ?_
      refine ⟨trivial, show ((perN (.sq b c) s : Nat) : Int) ≠ 0 by omega, .inl ⟨by decide, by decide⟩, ?_⟩
      refine for_ind (fun ss ρ => ∃ (w : List Int) (kf : Bool) (a5 : Option SV), ss = w.map (fun z => SV.d kf (.int z)) ∧ (∀ z ∈ w, 0 ≤ z → ∃ m : Nat, z = (m : Nat) ∧ rowN (.sq b c) s m = rowN (.sq b c) s n) ∧ (a5 = none ∨ ∃ z, a5 = some (.d kf (.int z))) ∧ ρ = [some (.d k (.int (s : Nat))), some (.d k2 (Kd.data (.sq b c))), some (.d k3 (.int (n : Nat))), some (.d k4 (.tuple ((rowN (.sq b c) s n).map fun x => PyData.int (x : Nat)))), some (.d k (.int (perN (.sq b c) s : Nat))), a5, none]) ?_ ?_ _ _ ⟨[((n : Nat) : Int) + ((perN (.sq b c) s : Nat) : Int), ((n : Nat) : Int) - ((perN (.sq b c) s : Nat) : Int), ((n : Nat) : Int).fmod ((perN (.sq b c) s : Nat) : Int), ((n : Nat) : Int) + 7 * ((perN (.sq b c) s : Nat) : Int)], false, none, rfl, ps, .inl rfl, rfl⟩
      · rintro v t ρ ⟨w, kf, a5, hs, hw, h5, rfl⟩ J hJ
        cases w with
        | nil => cases hs
        | cons z w =>
          injection hs with hs1 hs2
          subst hs1; subst hs2
          have done : J [some (.d k (.int (s : Nat))), some (.d k2 (Kd.data (.sq b c))), some (.d k3 (.int (n : Nat))), some (.d k4 (.tuple ((rowN (.sq b c) s n).map fun x => PyData.int (x : Nat)))), some (.d k (.int (perN (.sq b c) s : Nat))), some (.d kf (.int z)), none] := hJ _ ⟨w, kf, _, rfl, fun z hz => hw z (List.mem_cons_of_mem _ hz), .inr ⟨z, rfl⟩, rfl⟩
          by_cases c1 : 0 ≤ z
          · refine if_t (b := decide ((0 : Int) ≤ z)) (decide_eq_true c1) ?_
            refine ⟨c32, ?_⟩
            by_cases c2 : z < (2 : Int) ^ (32 : Int).toNat
            · refine if_t (b := decide (z < (2 : Int) ^ (32 : Int).toNat)) (decide_eq_true c2) ?_
              obtain ⟨m, rfl, e⟩ := hw z List.mem_cons_self c1
              rw [p32] at c2
              refine ⟨s, m, (.sq b c), "zz", rfl, s1, by omega, rfl, ok, rfl, by decide, by omega, ?_⟩
              refine ⟨eqOk_cells _ _, ?_⟩
              refine if_f (b := !(PyData.eqv (.tuple ((rowN (.sq b c) s m).map fun x => PyData.int (x : Nat))) (.tuple ((rowN (.sq b c) s n).map fun x => PyData.int (x : Nat))))) (by rw [eqv_cells, decide_eq_true e]; rfl) ?_
              exact done
            · refine if_f (b := decide (z < (2 : Int) ^ (32 : Int).toNat)) (decide_eq_false c2) ?_
              exact done
          · refine if_f (b := decide ((0 : Int) ≤ z)) (decide_eq_false c1) ?_
            exact done
      · rintro ρ ⟨w, kf, a5, hs, hw, h5, rfl⟩
        obtain ⟨N, hN⟩ : ∃ N : Int, N = ((n : Nat) : Int) := ⟨_, rfl⟩
        rw [← hN]
        refine ⟨show ((s : Nat) : Int) ≠ 0 by omega, rfl, ?_⟩
        by_cases z0 : (n + 1) % s = 0
        · refine if_f (b := !(PyData.eqv (.int ((N + 1).fmod ((s : Nat) : Int))) (.int 0))) (by rw [hN, next_mod, decide_eq_true z0]; rfl) ?_
          exact h
        · refine if_t (b := !(PyData.eqv (.int ((N + 1).fmod ((s : Nat) : Int))) (.int 0))) (by rw [hN, next_mod, decide_eq_false z0]; rfl) ?_
          refine ⟨c32, ?_⟩
          refine if_dec (fun c2 => ?_) fun c2 => ?_
          · have c2 : N + 1 < (2 : Int) ^ (32 : Int).toNat := c2
            rw [p32] at c2
            refine ⟨s, n + 1, (.sq b c), "zz", rfl, s1, by omega, rfl, ok, by rw [hN]; rfl, by decide, by omega, ?_⟩
            refine .inr ?_
            rcases h5 with rfl | ⟨z, rfl⟩ <;>
            · refine comp_ind (fun ss kk acc => ∃ u w : List Nat, ss = w.map (fun x => SV.d k4 (.int (x : Nat))) ∧ acc = (u.map fun c => (c + 1) % s).map (fun x => PyData.int (x : Nat)) ∧ u ++ w = rowN (.sq b c) s n) ?_ ?_ _ _ _ ⟨[], rowN (.sq b c) s n, by rw [List.map_map]; rfl, rfl, rfl⟩
              · rintro v t kk acc ⟨u, w, hs, rfl, he⟩ J hJ
                cases w with
                | nil => cases hs
                | cons c w =>
                  injection hs with hs1 hs2
                  subst hs1; subst hs2
                  refine ⟨show ((s : Nat) : Int) ≠ 0 by omega, ?_⟩
                  refine hJ _ _ ⟨u ++ [c], w, rfl, ?_, by rw [← he, List.append_assoc]; rfl⟩
                  rw [List.map_append, List.map_append]
                  show _ ++ [PyData.int ((((c : Nat) : Int) + 1).fmod ((s : Nat) : Int))] = _ ++ [PyData.int (((c + 1) % s : Nat) : Int)]
                  rw [← nat_fmod, Int.natCast_add]
                  rfl
              · rintro kk acc ⟨u, w, hs, rfl, he⟩
                have hb : w = [] := by
                  cases w with
                  | nil => rfl
                  | cons x w => cases hs
                subst hb
                rw [List.append_nil] at he
                subst he
                refine ⟨eqOk_cells _ _, ?_⟩
                exact Q_bool (i := PyData.eqv (.tuple ((rowN (.sq b c) s (n + 1)).map fun x => PyData.int (x : Nat))) (.tuple (((rowN (.sq b c) s n).map fun c => (c + 1) % s).map fun x => PyData.int (x : Nat)))) (by rw [eqv_cells]; exact decide_eq_true (row_shift s1 z0)) h
          · exact h
    | own =>
      refine ⟨(_ : D), rfl, ?_⟩
      refine ⟨rfl, ?_⟩
      refine ⟨trivial, .inl ⟨by omega, by omega⟩, ?_⟩
      refine Mark.at (ρ' := [some (.d k (.int (s : Nat))), some (.d k2 (Kd.data .own)), some (.d k3 (.int (n : Nat))), some (.d k4 (.tuple ((rowN .own s n).map fun x => PyData.int (x : Nat)))), some (.d false (.int (perN .own s : Nat))), none, none]) (by rw [← per_int s1]; rfl) ?_
      refine ⟨trivial, show ((perN .own s : Nat) : Int) ≠ 0 by omega, .inl ⟨by decide, by decide⟩, ?_⟩
      refine for_ind (fun ss ρ => ∃ (w : List Int) (kf : Bool) (a5 : Option SV), ss = w.map (fun z => SV.d kf (.int z)) ∧ (∀ z ∈ w, 0 ≤ z → ∃ m : Nat, z = (m : Nat) ∧ rowN .own s m = rowN .own s n) ∧ (a5 = none ∨ ∃ z, a5 = some (.d kf (.int z))) ∧ ρ = [some (.d k (.int (s : Nat))), some (.d k2 (Kd.data .own)), some (.d k3 (.int (n : Nat))), some (.d k4 (.tuple ((rowN .own s n).map fun x => PyData.int (x : Nat)))), some (.d false (.int (perN .own s : Nat))), a5, none]) ?_ ?_ _ _ ⟨[((n : Nat) : Int) + ((perN .own s : Nat) : Int), ((n : Nat) : Int) - ((perN .own s : Nat) : Int), ((n : Nat) : Int).fmod ((perN .own s : Nat) : Int), ((n : Nat) : Int) + 7 * ((perN .own s : Nat) : Int)], false, none, rfl, ps, .inl rfl, rfl⟩
      · rintro v t ρ ⟨w, kf, a5, hs, hw, h5, rfl⟩ J hJ
        cases w with
        | nil => cases hs
        | cons z w =>
          injection hs with hs1 hs2
          subst hs1; subst hs2
          have done : J [some (.d k (.int (s : Nat))), some (.d k2 (Kd.data .own)), some (.d k3 (.int (n : Nat))), some (.d k4 (.tuple ((rowN .own s n).map fun x => PyData.int (x : Nat)))), some (.d false (.int (perN .own s : Nat))), some (.d kf (.int z)), none] := hJ _ ⟨w, kf, _, rfl, fun z hz => hw z (List.mem_cons_of_mem _ hz), .inr ⟨z, rfl⟩, rfl⟩
          by_cases c1 : 0 ≤ z
          · refine if_t (b := decide ((0 : Int) ≤ z)) (decide_eq_true c1) ?_
            refine ⟨c32, ?_⟩
            by_cases c2 : z < (2 : Int) ^ (32 : Int).toNat
            · refine if_t (b := decide (z < (2 : Int) ^ (32 : Int).toNat)) (decide_eq_true c2) ?_
              obtain ⟨m, rfl, e⟩ := hw z List.mem_cons_self c1
              rw [p32] at c2
              refine ⟨s, m, .own, "zz", rfl, s1, by omega, rfl, ok, rfl, by decide, by omega, ?_⟩
              refine ⟨eqOk_cells _ _, ?_⟩
              refine if_f (b := !(PyData.eqv (.tuple ((rowN .own s m).map fun x => PyData.int (x : Nat))) (.tuple ((rowN .own s n).map fun x => PyData.int (x : Nat))))) (by rw [eqv_cells, decide_eq_true e]; rfl) ?_
              exact done
            · refine if_f (b := decide (z < (2 : Int) ^ (32 : Int).toNat)) (decide_eq_false c2) ?_
              exact done
          · refine if_f (b := decide ((0 : Int) ≤ z)) (decide_eq_false c1) ?_
            exact done
      · rintro ρ ⟨w, kf, a5, hs, hw, h5, rfl⟩
        obtain ⟨N, hN⟩ : ∃ N : Int, N = ((n : Nat) : Int) := ⟨_, rfl⟩
        rw [← hN]
        refine ⟨show ((s : Nat) : Int) ≠ 0 by omega, rfl, ?_⟩
        by_cases z0 : (n + 1) % s = 0
        · refine if_f (b := !(PyData.eqv (.int ((N + 1).fmod ((s : Nat) : Int))) (.int 0))) (by rw [hN, next_mod, decide_eq_true z0]; rfl) ?_
          exact h
        · refine if_t (b := !(PyData.eqv (.int ((N + 1).fmod ((s : Nat) : Int))) (.int 0))) (by rw [hN, next_mod, decide_eq_false z0]; rfl) ?_
          refine ⟨c32, ?_⟩
          refine if_dec (fun c2 => ?_) fun c2 => ?_
          · have c2 : N + 1 < (2 : Int) ^ (32 : Int).toNat := c2
            rw [p32] at c2
            refine ⟨s, n + 1, .own, "zz", rfl, s1, by omega, rfl, ok, by rw [hN]; rfl, by decide, by omega, ?_⟩
            refine .inr ?_
            rcases h5 with rfl | ⟨z, rfl⟩ <;>
            · refine comp_ind (fun ss kk acc => ∃ u w : List Nat, ss = w.map (fun x => SV.d k4 (.int (x : Nat))) ∧ acc = (u.map fun c => (c + 1) % s).map (fun x => PyData.int (x : Nat)) ∧ u ++ w = rowN .own s n) ?_ ?_ _ _ _ ⟨[], rowN .own s n, by rw [List.map_map]; rfl, rfl, rfl⟩
              · rintro v t kk acc ⟨u, w, hs, rfl, he⟩ J hJ
                cases w with
                | nil => cases hs
                | cons c w =>
                  injection hs with hs1 hs2
                  subst hs1; subst hs2
                  refine ⟨show ((s : Nat) : Int) ≠ 0 by omega, ?_⟩
                  refine hJ _ _ ⟨u ++ [c], w, rfl, ?_, by rw [← he, List.append_assoc]; rfl⟩
                  rw [List.map_append, List.map_append]
                  show _ ++ [PyData.int ((((c : Nat) : Int) + 1).fmod ((s : Nat) : Int))] = _ ++ [PyData.int (((c + 1) % s : Nat) : Int)]
                  rw [← nat_fmod, Int.natCast_add]
                  rfl
              · rintro kk acc ⟨u, w, hs, rfl, he⟩
                have hb : w = [] := by
                  cases w with
                  | nil => rfl
                  | cons x w => cases hs
                subst hb
                rw [List.append_nil] at he
                subst he
                refine ⟨eqOk_cells _ _, ?_⟩
                exact Q_bool (i := PyData.eqv (.tuple ((rowN .own s (n + 1)).map fun x => PyData.int (x : Nat))) (.tuple (((rowN .own s n).map fun c => (c + 1) % s).map fun x => PyData.int (x : Nat)))) (by rw [eqv_cells]; exact decide_eq_true (row_shift s1 z0)) h
          · exact h
  · exact h.elim
end My
set_option Elab.async false
set_option linter.all false
set_option maxRecDepth 100000
set_option maxHeartbeats 2000000
namespace My
open PySem PySem.Spec PyProof.Rows L2 DL
variable {P : Program} {w : World} {K : PySem.W.Frag} {mg : Str → Option Value} {base : Heap} {TT : List (Addr × Str)}
abbrev s__law_begun : Stmt := top 52
theorem sc__law_begun : FnScope ["script", "great", "cell"] ["script"] (defScope s__law_begun) := ⟨rfl, rfl, rfl, by decide +kernel, rfl, by decide +kernel, by decide +kernel⟩
theorem begun (T : Tx K mg) : BegFn P w K mg base 1 :=
  begun_fn (k := 0) T.ft_begun sc__law_begun ⟨⟨_, _, _, _, _, _, _, _, _, _, _, _, _, _, _, rfl⟩⟩ rfl (fun a cdv A out s H E C xc => (ds_setLc (own := [("cell", 2)]) 1 xc sc__law_begun.nd (di_scr xc 0) (blkOk_by (own := [("cell", 2)]) (N := ["script", "great", "cell"]) (sc := defScope s__law_begun) (by decide +kernel)) (fun _ _ _ _ _ => (dg_name (vs := ([("cell", 2)] : List (Str × Nat)).map (·.2)) 2 sc__law_begun.nd)) (fun _ _ _ _ _ => (dts_one (dt_cmp dop_ge (de_b1 (dcall_abs) T.b_abs (by decide +kernel) (de_var 2) (xc.blk)) (de_bin dop_pow de_int de_int)))) (fun _ _ _ _ _ => (de_bin dop_sub (de_b1 (dcall_abs) T.b_abs (by decide +kernel) (de_var 2) (xc.blk)) (de_bin dop_pow de_int de_int))))) (fun a cdv A out s H E C xc => (de_lc (own := [("cell", 2)]) xc sc__law_begun.nd (di_scr xc 0) (blkOk_by (own := [("cell", 2)]) (N := ["script", "great", "cell"]) (sc := defScope s__law_begun) (by decide +kernel)) (fun _ _ _ _ _ => (dg_name (vs := ([("cell", 2)] : List (Str × Nat)).map (·.2)) 2 sc__law_begun.nd)) (fun _ _ _ _ _ => dts_nil) (fun _ _ _ _ _ => (de_b1 (dcall_abs) T.b_abs (by decide +kernel) (de_var 2) (xc.blk)))))
abbrev s_law : Stmt := top 66
theorem sc_law : FnScope ["script", "state", "turn", "size", "lot", "kind", "row", "short", "least", "other", "many", "due", "name", "number"] ["script"] (defScope s_law) := ⟨rfl, rfl, rfl, by decide +kernel, rfl, by decide +kernel, by decide +kernel⟩
theorem eq_own (K : Kd) : PyData.eqv K.data (.tuple [.str "own"]) = (match K with | .own => true | _ => false) := by
  cases K with
  | own =>
    show (PyData.eqv (.str "own") (.str "own") && PyData.eqvAll [] []) = true
    rw [eqv_str]
    rfl
  | by_ a =>
    show (PyData.eqv (.str "by") (.str "own") && PyData.eqvAll [.int (a : Nat)] []) = false
    rw [eqv_str]
    rfl
  | tri =>
    show (PyData.eqv (.str "triangle") (.str "own") && PyData.eqvAll [] []) = false
    rw [eqv_str]
    rfl
  | sq b c =>
    show (PyData.eqv (.str "square") (.str "own") && PyData.eqvAll [.int (b : Nat), .int (c : Nat)] []) = false
    rw [eqv_str]
    rfl
theorem at1 (x y : D) (r : List D) : atI (x :: y :: r) 1 = some y := by
  unfold atI ixN
  rw [if_pos (by decide), if_pos (by simp only [List.length_cons]; omega)]
  rfl
theorem due_int (b : Bool) (x y : Nat) (h : b = decide (x = y)) : (if b = true then (1 : Int) else 0) = ((if x = y then 1 else 0 : Nat) : Int) := by
  subst h
  by_cases e : x = y
  · rw [if_pos (decide_eq_true e), if_pos e]; rfl
  · rw [if_neg (by rw [decide_eq_false e]; decide), if_neg e]; rfl

theorem pass {C : Nat → Bool → Prop} {p : Prop} (f : (∀ s : Nat, 1 ≤ s → s ≤ 1000 → ∀ k : Bool, C s k) → p) (g : ∀ s : Nat, 1 ≤ s → s ≤ 1000 → ∀ k : Bool, C s k) : p := f g
theorem lawFn (T : Tx K mg) {fa c : Addr} {fd : FuncData} (F : Fun K "law" "law" s_law fa fd) (hcode : fd.code = .ref c) : FnG P w K mg base true 8 fa fd ["script"] (spLaw K mg []) := by
  generalize hTT : ([] : List (Addr × Str)) = TT
  have none : TT ≠ [] → _root_.False := fun h => h hTT.symm
  have F__law_mixed := f__law_mixed (P := P) (w := w) (base := base) (TT := TT) T 
  have F__law_draw := f__law_draw (P := P) (w := w) (base := base) (TT := TT) T F__law_mixed
  have F__law_pick := f__law_pick (P := P) (w := w) (base := base) (TT := TT) T F__law_draw
  have F__law_shuffled := f__law_shuffled (P := P) (w := w) (base := base) (TT := TT) T F__law_draw
  have F__law_wholes := f__law_wholes (P := P) (w := w) (base := base) (TT := TT) T F__law_draw F__law_pick
  have F__law_size := f__law_size (P := P) (w := w) (base := base) (TT := TT) T F__law_draw F__law_pick
  have F__law_number := f__law_number (P := P) (w := w) (base := base) (TT := TT) T F__law_draw
  have F__law_names := f__law_names (P := P) (w := w) (base := base) (TT := TT) T F__law_shuffled
  have F__law_lot := f__law_lot (P := P) (w := w) (base := base) (TT := TT) T F__law_draw F__law_number F__law_names F__law_pick
  have F__law_told := f__law_told (P := P) (w := w) (base := base) (TT := TT) T F__law_shuffled F__law_pick F__law_draw
  have F__law_kind := f__law_kind (P := P) (w := w) (base := base) (TT := TT) T F__law_draw F__law_wholes F__law_told
  have F_is_whole := f_is_whole (P := P) (w := w) (base := base) (TT := TT) T 
  have F_is_name := f_is_name (P := P) (w := w) (base := base) (TT := TT) T 
  have F_is_key := f_is_key (P := P) (w := w) (base := base) (TT := TT) T F_is_whole F_is_name
  have F_need_size := f_need_size (P := P) (w := w) (base := base) (TT := TT) T F_is_whole
  have F_need_key := f_need_key (P := P) (w := w) (base := base) (TT := TT) T F_is_key
  have F_need_cell := f_need_cell (P := P) (w := w) (base := base) (TT := TT) T F_is_whole
  have F_is_cells := f_is_cells (P := P) (w := w) (base := base) (TT := TT) T F_is_whole
  have F_is_plain_kind := f_is_plain_kind (P := P) (w := w) (base := base) (TT := TT) T F_is_whole
  have F_is_kind_of := f_is_kind_of (P := P) (w := w) (base := base) (TT := TT) T F_is_plain_kind
  have F_need_kind := f_need_kind (P := P) (w := w) (base := base) (TT := TT) T F_is_kind_of
  have F_step_of := f_step_of (P := P) (w := w) (base := base) (TT := TT) T 
  have F_cells_in_turn := f_cells_in_turn (P := P) (w := w) (base := base) (TT := TT) T F_step_of
  have F_row_at := f_row_at (P := P) (w := w) (base := base) (TT := TT) T F_cells_in_turn
  have F_has_row := f_has_row (P := P) (w := w) (base := base) (TT := TT) T 
  have F_need_rows := f_need_rows (P := P) (w := w) (base := base) (TT := TT) T F_has_row
  have F_need_row_of := f_need_row_of (P := P) (w := w) (base := base) (TT := TT) T F_need_size F_need_kind F_need_key F_need_rows
  have F_row_of := f_row_of (P := P) (w := w) (base := base) (TT := TT) T F_need_row_of F_row_at
  have F_home_of := f_home_of (P := P) (w := w) (base := base) (TT := TT) T F_need_row_of F_row_at
  have F_place_in := f_place_in (P := P) (w := w) (base := base) (TT := TT) T F_need_row_of F_need_cell F_row_at
  have F_together := f_together (P := P) (w := w) (base := base) (TT := TT) T F_need_row_of F_need_key F_need_rows F_row_at
  have F_need_great := f_need_great (P := P) (w := w) (base := base) (TT := TT) T F_is_whole F_is_plain_kind
  have F_powered := f_powered (P := P) (w := w) (base := base) (TT := TT) T 
  have F_prime_powers := f_prime_powers (P := P) (w := w) (base := base) (TT := TT) T 
  have F_divided := f_divided (P := P) (w := w) (base := base) (TT := TT) T F_powered
  have F_squares := f_squares (P := P) (w := w) (base := base) (TT := TT) T F_powered
  have F_met_by_power := f_met_by_power (P := P) (w := w) (base := base) (TT := TT) T F_powered F_divided F_squares
  have F_cells_met := f_cells_met (P := P) (w := w) (base := base) (TT := TT) T F_need_great F_prime_powers F_met_by_power
  have F_meets_all := f_meets_all (P := P) (w := w) (base := base) (TT := TT) T F_need_great F_prime_powers F_met_by_power F_powered
  have F_first_short := f_first_short (P := P) (w := w) (base := base) (TT := TT) T F_need_size F_prime_powers
  have F_unlike_rows := f_unlike_rows (P := P) (w := w) (base := base) (TT := TT) T F_need_size F_need_kind
  have F_number_with := f_number_with (P := P) (w := w) (base := base) (TT := TT) T F_need_size F_need_kind F_is_cells F_row_at
  have F__law_turned := f__law_turned (P := P) (w := w) (base := base) (TT := TT) T F__law_shuffled F_place_in
  have F__law_beside := f__law_beside (P := P) (w := w) (base := base) (TT := TT) T F_row_of
  refine law_fn (Pt := c) (k := 7) (m := 12) (N := ["script", "state", "turn", "size", "lot", "kind", "row", "short", "least", "other", "many", "due", "name", "number"]) F sc_law hcode (fun h => (none h).elim) (fun h => (none h).elim) rfl (match begun (P := P) (w := w) (base := base) T with | ⟨⟨a, fd, x, r⟩⟩ => ⟨⟨a, fd, x.mono (by decide), r⟩⟩) rfl rfl rfl rfl rfl rfl (fun env _ => rfl) (fun cdv A out s H E C xc hg hT lt0 hr => by
    have gdt : C.gd = true := hg; have F__law_size : DFn P w K mg base C.T false 3 4 "_law_size" ["state", "most"] S__law_size := (by rw [hT]; exact F__law_size); have F__law_lot : DFn P w K mg base C.T false 4294967296 5 "_law_lot" ["state", "size", "many"] S__law_lot := (by rw [hT]; exact F__law_lot); have F__law_kind : DFn P w K mg base C.T false 9007199254740992 5 "_law_kind" ["state", "size", "lot"] S__law_kind := (by rw [hT]; exact F__law_kind); have F_row_of : DFn P w K mg base C.T false 0 6 "row_of" ["size", "kind", "key"] S_row_of := (by rw [hT]; exact F_row_of); have F__law_turned : DFn P w K mg base C.T false 67108864 7 "_law_turned" ["state", "size", "kind", "key", "row"] S__law_turned := (by rw [hT]; exact F__law_turned); have F_home_of : DFn P w K mg base C.T false 0 6 "home_of" ["size", "kind", "key"] S_home_of := (by rw [hT]; exact F_home_of); have F_meets_all : DFn P w K mg base C.T false 0 4 "meets_all" ["great", "kind"] S_meets_all := (by rw [hT]; exact F_meets_all); have F_cells_met : DFn P w K mg base C.T false 0 4 "cells_met" ["great", "kind"] S_cells_met := (by rw [hT]; exact F_cells_met); have F_first_short : DFn P w K mg base C.T false 0 3 "first_short" ["size"] S_first_short := (by rw [hT]; exact F_first_short); have F_number_with : DFn P w K mg base C.T false 0 5 "number_with" ["size", "kind", "row"] S_number_with := (by rw [hT]; exact F_number_with); have F_unlike_rows : DFn P w K mg base C.T false 0 5 "unlike_rows" ["size", "kind"] S_unlike_rows := (by rw [hT]; exact F_unlike_rows); have F__law_beside : DFn P w K mg base C.T false 0 7 "_law_beside" ["size", "kind", "number", "row"] S__law_beside := (by rw [hT]; exact F__law_beside); have F_together : DFn P w K mg base C.T false 0 6 "together" ["size", "kind", "one", "other"] S_together := (by rw [hT]; exact F_together);  have hr__law_size := hr.mono (show 4 ≤ 7 by decide); have gd__law_size : false = true → C.gd = true := fun h => (by cases h); have hr__law_lot := hr.mono (show 5 ≤ 7 by decide); have gd__law_lot : false = true → C.gd = true := fun h => (by cases h); have hr__law_kind := hr.mono (show 5 ≤ 7 by decide); have gd__law_kind : false = true → C.gd = true := fun h => (by cases h); have hr_row_of := hr.mono (show 6 ≤ 7 by decide); have gd_row_of : false = true → C.gd = true := fun h => (by cases h); have hr__law_turned := hr.mono (show 7 ≤ 7 by decide); have gd__law_turned : false = true → C.gd = true := fun h => (by cases h); have hr_home_of := hr.mono (show 6 ≤ 7 by decide); have gd_home_of : false = true → C.gd = true := fun h => (by cases h); have hr_meets_all := hr.mono (show 4 ≤ 7 by decide); have gd_meets_all : false = true → C.gd = true := fun h => (by cases h); have hr_cells_met := hr.mono (show 4 ≤ 7 by decide); have gd_cells_met : false = true → C.gd = true := fun h => (by cases h); have hr_first_short := hr.mono (show 3 ≤ 7 by decide); have gd_first_short : false = true → C.gd = true := fun h => (by cases h); have hr_number_with := hr.mono (show 5 ≤ 7 by decide); have gd_number_with : false = true → C.gd = true := fun h => (by cases h); have hr_unlike_rows := hr.mono (show 5 ≤ 7 by decide); have gd_unlike_rows : false = true → C.gd = true := fun h => (by cases h); have hr__law_beside := hr.mono (show 7 ≤ 7 by decide); have gd__law_beside : false = true → C.gd = true := fun h => (by cases h); have hr_together := hr.mono (show 6 ≤ 7 by decide); have gd_together : false = true → C.gd = true := fun h => (by cases h); exact (dss_cons (ds_mark (ds_for xc (di_rng1 xc T.b_range (de_bin (dop_add xc) de_int (de_b2 (dcall_min xc) T.b_min (by decide +kernel) (de_b1 (dcall_lenS xc) T.b_len (by decide +kernel) (de_var 0) xc) de_int xc))) (dg_name (vs := [0, 1, 2, 3, 4, 5, 6, 7, 8, 9, 10, 11, 12, 13]) 2 sc_law.nd)
  (dss_cons (ds_mark (ds_veil [false, false, false, true, true, true, true, true, true, true, true, true, true, true] (ds_set 3 sc_law.nd (de_call F__law_size xc gd__law_size hr__law_size (da_cons (de_var 1) (da_cons (de_if (dt_cmp dop_lt (de_var 2) de_int) de_int de_int) da_nil))))))
  (dss_cons (ds_mark (ds_frz 3 (ds_set 4 sc_law.nd (de_call F__law_lot xc gd__law_lot hr__law_lot (da_cons (de_var 1) (da_cons (de_var 3) (da_cons de_int da_nil)))))))
  (dss_cons (ds_mark (ds_frz 3 (ds_frz 4 (ds_set 5 sc_law.nd (de_call F__law_kind xc gd__law_kind hr__law_kind (da_cons (de_var 1) (da_cons (de_var 3) (da_cons (de_var 4) da_nil))))))))
  (dss_cons (ds_mark (ds_frz 5 (ds_if (dt_cmp (dop_eq xc) (de_ix xc (de_var 5) de_int) de_str)
  (dss_one (ds_mark (ds_set 5 sc_law.nd (de_tup (da_cons de_str da_nil)))))
  dss_nil)))
  (dss_cons (ds_mark (ds_frz 4 (ds_asg (de_ix xc (de_var 4) de_int) (dg_tup (vs := [0, 1, 2, 3, 4, 5, 6, 7, 8, 9, 10, 11, 12, 13]) xc (dgs_cons (dg_name (vs := [0, 1, 2, 3, 4, 5, 6, 7, 8, 9, 10, 11, 12, 13]) 12 sc_law.nd) (dgs_cons (dg_name (vs := [0, 1, 2, 3, 4, 5, 6, 7, 8, 9, 10, 11, 12, 13]) 13 sc_law.nd) (dgs_nil (vs := [0, 1, 2, 3, 4, 5, 6, 7, 8, 9, 10, 11, 12, 13])))) rfl (fun h => pg_tup (by rfl) h)))))
  (dss_cons (ds_mark (ds_frz 3 (ds_frz 4 (ds_frz 5 (ds_set 6 sc_law.nd (de_call F_row_of xc gd_row_of hr_row_of (da_cons (de_var 3) (da_cons (de_var 5) (da_cons (de_ix xc (de_var 4) de_int) da_nil)))))))))
  (dss_cons (ds_mark (ds_frz 3 (ds_frz 4 (ds_frz 5 (ds_frz 6 (ds_if (dt_w (dw_or (dt_cmp (dop_ne xc) (de_call F_home_of xc gd_home_of hr_home_of (da_cons (de_var 3) (da_cons (de_var 5) (da_cons (de_ix xc (de_var 4) de_int) da_nil)))) (de_bin dop_mod (de_t1 (dcall_int) T.b_int boot_int (de_var 13) xc) (de_var 3))) (dw_or1 (dt_not (dt_val (de_call F__law_turned xc gd__law_turned hr__law_turned (da_cons (de_var 1) (da_cons (de_var 3) (da_cons (de_var 5) (da_cons (de_ix xc (de_var 4) de_int) (da_cons (de_var 6) da_nil)))))))))))
  (dss_one (ds_mark (ds_ret de_bool)))
  dss_nil))))))
  (dss_cons (ds_mark (ds_frz 3 (ds_frz 5 (ds_frz 6 (ds_if (dt_w (dw_and (dt_cmp (dop_ne xc) (de_ix xc (de_var 5) de_int) de_str) (dw_and1 (dt_w (dw_or (dt_cmp (dop_ne xc) (de_call F_cells_met xc gd_cells_met hr_cells_met (da_cons (de_var 3) (da_cons (de_var 5) da_nil))) (de_b1 (dcall_len xc) T.b_len (by decide +kernel) (de_var 6) xc)) (dw_or1 (dt_cmp (dop_ne xc) (de_call F_meets_all xc gd_meets_all hr_meets_all (da_cons (de_var 3) (da_cons (de_var 5) da_nil))) (de_cmp (dop_eq xc) (de_b1 (dcall_len xc) T.b_len (by decide +kernel) (de_var 6) xc) (de_var 3)))))))))
  (dss_one (ds_mark (ds_ret de_bool)))
  dss_nil)))))
  (dss_cons (ds_mark (ds_frz 3 (ds_set 7 sc_law.nd (de_call F_first_short xc gd_first_short hr_first_short (da_cons (de_var 3) da_nil)))))
  (dss_cons (ds_mark (ds_frz 3 (ds_frz 5 (ds_frz 6 (ds_frz 7 (ds_if (dt_w (dw_and (dt_cmp (dop_eq xc) (de_var 5) (de_tup (da_cons de_str da_nil))) (dw_and (dt_cmp dop_lt (de_b1 (dcall_len xc) T.b_len (by decide +kernel) (de_var 6) xc) (de_var 3)) (dw_and1 (dt_w (dw_or (dt_cmp dop_is (de_var 7) de_none) (dw_or1 (dt_cmp dop_lt (de_var 13) (de_var 7)))))))))
  (dss_one (ds_mark (ds_ret de_bool)))
  dss_nil))))))
  (dss_cons (ds_mark (ds_frz 3 (ds_frz 5 (ds_frz 6 (ds_set 8 sc_law.nd (de_call F_number_with xc gd_number_with hr_number_with (da_cons (de_var 3) (da_cons (de_var 5) (da_cons (de_var 6) da_nil)))))))))
  (dss_cons (ds_mark (ds_frz 3 (ds_frz 5 (ds_frz 6 (ds_frz 8 (ds_if (dt_w (dw_or (dt_cmp dop_gt (de_var 8) (de_var 13)) (dw_or (dt_cmp (dop_ne xc) (de_call F_row_of xc gd_row_of hr_row_of (da_cons (de_var 3) (da_cons (de_var 5) (da_cons (de_tup (da_cons de_str (da_cons (de_var 8) da_nil))) da_nil)))) (de_var 6)) (dw_or1 (dt_cmp dop_ge (de_var 8) (de_call F_unlike_rows xc gd_unlike_rows hr_unlike_rows (da_cons (de_var 3) (da_cons (de_var 5) da_nil))))))))
  (dss_one (ds_mark (ds_ret de_bool)))
  dss_nil))))))
  (dss_cons (ds_mark (ds_frz 3 (ds_frz 5 (ds_frz 6 (ds_if (dt_not (dt_val (de_call F__law_beside xc gd__law_beside hr__law_beside (da_cons (de_var 3) (da_cons (de_var 5) (da_cons (de_var 13) (da_cons (de_var 6) da_nil)))))))
  (dss_one (ds_mark (ds_ret de_bool)))
  dss_nil)))))
  (dss_cons (ds_mark (ds_frz 3 (ds_frz 4 (ds_frz 5 (ds_set 9 sc_law.nd (de_call F_row_of xc gd_row_of hr_row_of (da_cons (de_var 3) (da_cons (de_var 5) (da_cons (de_ix xc (de_var 4) de_int) da_nil)))))))))
  (dss_cons (ds_mark (ds_frz 3 (ds_frz 4 (ds_frz 5 (ds_set 10 sc_law.nd (de_call F_together xc gd_together hr_together (da_cons (de_var 3) (da_cons (de_var 5) (da_cons (de_ix xc (de_var 4) de_int) (da_cons (de_ix xc (de_var 4) de_int) da_nil))))))))))
  (dss_cons (ds_mark (ds_frz 6 (ds_frz 9 (ds_set 11 sc_law.nd (de_if (dt_cmp (dop_eq xc) (de_var 6) (de_var 9)) (de_b1 (dcall_len xc) T.b_len (by decide +kernel) (de_var 6) xc) (de_t1 (dcall_int) T.b_int boot_int (de_cmp (dop_eq xc) (de_ix xc (de_var 6) de_int) (de_ix xc (de_var 9) de_int)) xc))))))
  (dss_one (ds_mark (ds_frz 3 (ds_frz 4 (ds_frz 5 (ds_frz 6 (ds_frz 10 (ds_frz 11 (ds_if (dt_w (dw_or (dt_cmp (dop_ne xc) (de_var 10) (de_var 11)) (dw_or (dt_cmp (dop_ne xc) (de_call F_together xc gd_together hr_together (da_cons (de_var 3) (da_cons (de_var 5) (da_cons (de_ix xc (de_var 4) de_int) (da_cons (de_ix xc (de_var 4) de_int) da_nil))))) (de_var 11)) (dw_or1 (dt_w (dw_and (dt_cmp (dop_eq xc) (de_var 11) de_int) (dw_and (dt_cmp (dop_ne xc) (de_var 5) (de_tup (da_cons de_str da_nil))) (dw_and1 (dt_cmp dop_gt (de_b1 (dcall_len xc) T.b_len (by decide +kernel) (de_var 6) xc) de_int)))))))))
  (dss_one (ds_mark (ds_ret de_bool)))
  dss_nil)))))))))))))))))))))))))))
  (dss_one (ds_mark (ds_ret de_bool))))) (cap_ok (by decide)) ?_
  clear none hTT
  intro ns hns
  have hmin : 0 ≤ (if (5 : Int) < (ns.length : Nat) then (5 : Int) else ((ns.length : Nat) : Int)) ∧ (if (5 : Int) < (ns.length : Nat) then (5 : Int) else ((ns.length : Nat) : Int)) ≤ 5 := by split <;> omega
  refine Mark.at (ρ' := [some (.scr ns), some .st, none, none, none, none, none, none, none, none, none, none, none, none]) rfl ?_
  refine ⟨Int.le_trans (show -(2 ^ 62 : Int) ≤ 0 by decide) (show (0 : Int) ≤ 3 + (if (5 : Int) < (ns.length : Nat) then (5 : Int) else ((ns.length : Nat) : Int)) by omega), show (3 + (if (5 : Int) < (ns.length : Nat) then (5 : Int) else ((ns.length : Nat) : Int)) : Int) ≤ 10000000 by omega, ?_⟩
  refine for_ind (fun ss ρ => ∃ a2 a3 a4 a5 a6 a7 a8 a9 a10 a11 a12 a13 : Option SV, (∀ s ∈ ss, ∃ z : Int, s = .d false (.int z)) ∧ ρ = [some (.scr ns), some .st, a2, a3, a4, a5, a6, a7, a8, a9, a10, a11, a12, a13]) ?_ ?_ _ _ ⟨none, none, none, none, none, none, none, none, none, none, none, none, fun s hs => ?_, rfl⟩
  · rintro s t ρ ⟨a2, a3, a4, a5, a6, a7, a8, a9, a10, a11, a12, a13, hz, rfl⟩ J hJ
    obtain ⟨z, rfl⟩ := hz s List.mem_cons_self
    have done : ∀ a3 a4 a5 a6 a7 a8 a9 a10 a11 a12 a13 : Option SV, J [some (.scr ns), some .st, some (.d false (.int z)), a3, a4, a5, a6, a7, a8, a9, a10, a11, a12, a13] := fun a3 a4 a5 a6 a7 a8 a9 a10 a11 a12 a13 => hJ _ ⟨_, a3, a4, a5, a6, a7, a8, a9, a10, a11, a12, a13, fun s hs => hz s (List.mem_cons_of_mem _ hs), rfl⟩
    clear hJ hz
    refine Mark.at (ρ' := [some (.scr ns), some .st, some (.d false (.int z)), a3, a4, a5, a6, a7, a8, a9, a10, a11, a12, a13]) rfl ?_
    apply pass
    · intro g
      by_cases c : z < 2
      · refine if_t (b := decide (z < 2)) (decide_eq_true c) ?_
        exact ⟨1000, rfl, by decide, by decide, fun s s1 s2 kk => g s s1 s2 kk⟩
      · refine if_f (b := decide (z < 2)) (decide_eq_false c) ?_
        exact ⟨60, rfl, by decide, by decide, fun s s1 s2 kk => g s s1 (by omega) kk⟩
    intro s s1 s2 k3
    refine Mark.at (ρ' := [some (.scr ns), some .st, some (.d false (.int z)), some (.d k3 (.int (s : Nat))), none, none, none, none, none, none, none, none, none, none]) rfl ?_
    refine ⟨rfl, s, rfl, s1, by omega, fun a b n m ha hb hn hm k4 => ?_⟩
    refine Mark.at (ρ' := [some (.scr ns), some .st, some (.d false (.int z)), some (.d k3 (.int (s : Nat))), some (.d k4 (.tuple [keyD a n, keyD b m])), none, none, none, none, none, none, none, none, none]) rfl ?_
    refine ⟨s, a, b, n, m, rfl, s1, by omega, rfl, fun K ok kk => ?_, fun kk kds => ?_⟩
    · cases K with
      | by_ ka =>
        have ci := cells_is (K := (.by_ ka)) (fun e => Kd.noConfusion e) n s1 s2
        have lle := least_le (.by_ ka) s n
        have llt := least_lt (.by_ ka) n s1
        refine Mark.at (ρ' := [some (.scr ns), some .st, some (.d false (.int z)), some (.d k3 (.int (s : Nat))), some (.d k4 (.tuple [keyD a n, keyD b m])), some (.d kk (Kd.data (.by_ ka))), none, none, none, none, none, none, none, none]) rfl ?_
        refine ⟨(_ : D), rfl, ?_⟩
        refine ⟨rfl, ?_⟩
        refine Mark.at (ρ' := [some (.scr ns), some .st, some (.d false (.int z)), some (.d k3 (.int (s : Nat))), some (.d k4 (.tuple [keyD a n, keyD b m])), some (.d kk (Kd.data (.by_ ka))), none, none, none, none, none, none, none, none]) rfl ?_
        refine ⟨_, at0 _ _, rfl, ?_⟩
        refine Mark.at (ρ' := [some (.scr ns), some .st, some (.d false (.int z)), some (.d k3 (.int (s : Nat))), some (.d k4 (.tuple [keyD a n, keyD b m])), some (.d kk (Kd.data (.by_ ka))), none, none, none, none, none, none, some (.d k4 (.str a)), some (.d k4 (.int (n : Nat)))]) rfl ?_
        refine ⟨_, at0 _ _, ?_⟩
        refine ⟨s, n, (.by_ ka), a, rfl, s1, by omega, rfl, ok, rfl, ha, hn, ?_⟩
        refine Mark.at (ρ' := [some (.scr ns), some .st, some (.d false (.int z)), some (.d k3 (.int (s : Nat))), some (.d k4 (.tuple [keyD a n, keyD b m])), some (.d kk (Kd.data (.by_ ka))), some (.own true (.tuple ((rowN (.by_ ka) s n).map fun x => PyData.int (x : Nat)))), none, none, none, none, none, some (.d k4 (.str a)), some (.d k4 (.int (n : Nat)))]) rfl ?_
        refine ⟨_, at0 _ _, ?_⟩
        refine ⟨s, n, (.by_ ka), a, rfl, s1, by omega, rfl, ok, rfl, ha, hn, fun k9 => ?_⟩
        refine ⟨show ((s : Nat) : Int) ≠ 0 by omega, rfl, ?_⟩
        refine if_f (b := !(PyData.eqv (.int (n % s : Nat)) (.int (((n : Nat) : Int).fmod ((s : Nat) : Int))))) (by rw [nat_fmod, eqv_int]; rfl) ?_
        refine ⟨_, at0 _ _, ?_⟩
        refine ⟨s, n, (.by_ ka), a, rfl, s1, s2, rfl, ok, rfl, ha, hn, rfl, ?_⟩
        refine Mark.at (ρ' := [some (.scr ns), some .st, some (.d false (.int z)), some (.d k3 (.int (s : Nat))), some (.d k4 (.tuple [keyD a n, keyD b m])), some (.d kk (Kd.data (.by_ ka))), some (.d true (.tuple ((rowN (.by_ ka) s n).map fun x => PyData.int (x : Nat)))), none, none, none, none, none, some (.d k4 (.str a)), some (.d k4 (.int (n : Nat)))]) rfl ?_
        refine ⟨(_ : D), rfl, ?_⟩
        refine ⟨rfl, ?_⟩
        refine ⟨s, (.by_ ka), rfl, s1, s2, rfl, ok, fun e => Kd.noConfusion e, ?_⟩
        refine ⟨rfl, ?_⟩
        refine if_f (b := !(PyData.eqv (.int (prodN (.by_ ka) (ppN s) : Nat)) (.int (((rowN (.by_ ka) s n).map fun x => PyData.int (x : Nat)).length : Nat)))) (by rw [← ci.1, List.length_map, eqv_int]; rfl) ?_
        refine ⟨s, (.by_ ka), rfl, s1, by omega, rfl, ok, fun e => Kd.noConfusion e, ?_⟩
        refine ⟨rfl, rfl, ?_⟩
        refine if_f (b := !(PyData.eqv (.bool (meetsB (.by_ ka) s)) (.bool (PyData.eqv (.int (((rowN (.by_ ka) s n).map fun x => PyData.int (x : Nat)).length : Nat)) (.int (s : Nat)))))) (by rw [List.length_map, len_is, ci.2, eqv_bool]; rfl) ?_
        refine Mark.at (ρ' := [some (.scr ns), some .st, some (.d false (.int z)), some (.d k3 (.int (s : Nat))), some (.d k4 (.tuple [keyD a n, keyD b m])), some (.d kk (Kd.data (.by_ ka))), some (.d true (.tuple ((rowN (.by_ ka) s n).map fun x => PyData.int (x : Nat)))), none, none, none, none, none, some (.d k4 (.str a)), some (.d k4 (.int (n : Nat)))]) rfl ?_
        refine .inr ⟨s, rfl, s1, by omega, ?_⟩
        refine Mark.at (ρ' := [some (.scr ns), some .st, some (.d false (.int z)), some (.d k3 (.int (s : Nat))), some (.d k4 (.tuple [keyD a n, keyD b m])), some (.d kk (Kd.data (.by_ ka))), some (.d true (.tuple ((rowN (.by_ ka) s n).map fun x => PyData.int (x : Nat)))), some (.d false (shortD s)), none, none, none, none, some (.d k4 (.str a)), some (.d k4 (.int (n : Nat)))]) rfl ?_
        refine ⟨kd_shaped2 (.by_ ka), ?_⟩
        refine Mark.at (ρ' := [some (.scr ns), some .st, some (.d false (.int z)), some (.d k3 (.int (s : Nat))), some (.d k4 (.tuple [keyD a n, keyD b m])), some (.d kk (Kd.data (.by_ ka))), some (.d true (.tuple ((rowN (.by_ ka) s n).map fun x => PyData.int (x : Nat)))), some (.d false (shortD s)), none, none, none, none, some (.d k4 (.str a)), some (.d k4 (.int (n : Nat)))]) rfl ?_
        refine ⟨s, n, (.by_ ka), rfl, s1, s2, rfl, ok, rfl, hn, fun k8 => ?_⟩
        refine Mark.at (ρ' := [some (.scr ns), some .st, some (.d false (.int z)), some (.d k3 (.int (s : Nat))), some (.d k4 (.tuple [keyD a n, keyD b m])), some (.d kk (Kd.data (.by_ ka))), some (.d true (.tuple ((rowN (.by_ ka) s n).map fun x => PyData.int (x : Nat)))), some (.d false (shortD s)), some (.d k8 (.int (leastN (.by_ ka) s n : Nat))), none, none, none, some (.d k4 (.str a)), some (.d k4 (.int (n : Nat)))]) rfl ?_
        refine if_f (b := decide (((leastN (.by_ ka) s n : Nat) : Int) > (n : Nat))) (decide_eq_false (by omega)) ?_
        refine ⟨s, leastN (.by_ ka) s n, (.by_ ka), "any", rfl, s1, by omega, rfl, ok, rfl, by decide, by omega, ?_⟩
        refine ⟨eqOk_cells _ _, ?_⟩
        refine if_f (b := !(PyData.eqv (.tuple ((rowN (.by_ ka) s (leastN (.by_ ka) s n)).map fun x => PyData.int (x : Nat))) (.tuple ((rowN (.by_ ka) s n).map fun x => PyData.int (x : Nat))))) (by rw [eqv_cells, decide_eq_true (least_row (.by_ ka) n s1)]; rfl) ?_
        refine ⟨s, (.by_ ka), rfl, s1, by omega, rfl, ok, fun k9 => ?_⟩
        refine if_f (b := decide (((leastN (.by_ ka) s n : Nat) : Int) ≥ (unN (.by_ ka) s : Nat))) (decide_eq_false (by omega)) ?_
        refine Mark.at (ρ' := [some (.scr ns), some .st, some (.d false (.int z)), some (.d k3 (.int (s : Nat))), some (.d k4 (.tuple [keyD a n, keyD b m])), some (.d kk (Kd.data (.by_ ka))), some (.d true (.tuple ((rowN (.by_ ka) s n).map fun x => PyData.int (x : Nat)))), some (.d false (shortD s)), some (.d k8 (.int (leastN (.by_ ka) s n : Nat))), none, none, none, some (.d k4 (.str a)), some (.d k4 (.int (n : Nat)))]) rfl ?_
        refine ⟨s, n, (.by_ ka), rfl, s1, s2, rfl, ok, rfl, hn, rfl, ?_⟩
        refine Mark.at (ρ' := [some (.scr ns), some .st, some (.d false (.int z)), some (.d k3 (.int (s : Nat))), some (.d k4 (.tuple [keyD a n, keyD b m])), some (.d kk (Kd.data (.by_ ka))), some (.d true (.tuple ((rowN (.by_ ka) s n).map fun x => PyData.int (x : Nat)))), some (.d false (shortD s)), some (.d k8 (.int (leastN (.by_ ka) s n : Nat))), none, none, none, some (.d k4 (.str a)), some (.d k4 (.int (n : Nat)))]) rfl ?_
        refine ⟨_, at1 _ _ _, ?_⟩
        refine ⟨s, m, (.by_ ka), b, rfl, s1, by omega, rfl, ok, rfl, hb, hm, ?_⟩
        refine Mark.at (ρ' := [some (.scr ns), some .st, some (.d false (.int z)), some (.d k3 (.int (s : Nat))), some (.d k4 (.tuple [keyD a n, keyD b m])), some (.d kk (Kd.data (.by_ ka))), some (.d true (.tuple ((rowN (.by_ ka) s n).map fun x => PyData.int (x : Nat)))), some (.d false (shortD s)), some (.d k8 (.int (leastN (.by_ ka) s n : Nat))), some (.own true (.tuple ((rowN (.by_ ka) s m).map fun x => PyData.int (x : Nat)))), none, none, some (.d k4 (.str a)), some (.d k4 (.int (n : Nat)))]) rfl ?_
        refine ⟨_, at0 _ _, ?_⟩
        refine ⟨_, at1 _ _ _, ?_⟩
        refine ⟨s, n, m, (.by_ ka), a, b, rfl, s1, by omega, rfl, ok, rfl, ha, hn, rfl, hb, hm, ?_⟩
        refine Mark.at (ρ' := [some (.scr ns), some .st, some (.d false (.int z)), some (.d k3 (.int (s : Nat))), some (.d k4 (.tuple [keyD a n, keyD b m])), some (.d kk (Kd.data (.by_ ka))), some (.d true (.tuple ((rowN (.by_ ka) s n).map fun x => PyData.int (x : Nat)))), some (.d false (shortD s)), some (.d k8 (.int (leastN (.by_ ka) s n : Nat))), some (.own true (.tuple ((rowN (.by_ ka) s m).map fun x => PyData.int (x : Nat)))), some (.d false (.int (tog (rowN (.by_ ka) s n) (rowN (.by_ ka) s m) : Nat))), none, some (.d k4 (.str a)), some (.d k4 (.int (n : Nat)))]) rfl ?_
        refine ⟨eqOk_cells _ _, ?_⟩
        by_cases eq : rowN (.by_ ka) s n = rowN (.by_ ka) s m
        · refine if_t (b := PyData.eqv (.tuple ((rowN (.by_ ka) s n).map fun x => PyData.int (x : Nat))) (.tuple ((rowN (.by_ ka) s m).map fun x => PyData.int (x : Nat)))) (by rw [eqv_cells]; exact decide_eq_true eq) ?_
          have tt : tog (rowN (.by_ ka) s n) (rowN (.by_ ka) s m) = (rowN (.by_ ka) s n).length := by rw [← eq]; exact tog_self _
          refine Mark.at (ρ' := [some (.scr ns), some .st, some (.d false (.int z)), some (.d k3 (.int (s : Nat))), some (.d k4 (.tuple [keyD a n, keyD b m])), some (.d kk (Kd.data (.by_ ka))), some (.d true (.tuple ((rowN (.by_ ka) s n).map fun x => PyData.int (x : Nat)))), some (.d false (shortD s)), some (.d k8 (.int (leastN (.by_ ka) s n : Nat))), some (.d true (.tuple ((rowN (.by_ ka) s m).map fun x => PyData.int (x : Nat)))), some (.d false (.int (tog (rowN (.by_ ka) s n) (rowN (.by_ ka) s m) : Nat))), some (.d false (.int ((rowN (.by_ ka) s n).length : Nat))), some (.d k4 (.str a)), some (.d k4 (.int (n : Nat)))]) (by rw [← List.length_map (f := fun x : Nat => PyData.int (x : Nat))]; rfl) ?_
          refine ⟨rfl, ?_⟩
          refine if_f (b := !(PyData.eqv (.int (tog (rowN (.by_ ka) s n) (rowN (.by_ ka) s m) : Nat)) (.int ((rowN (.by_ ka) s n).length : Nat)))) (by rw [tt, eqv_int]; rfl) ?_
          refine ⟨_, at1 _ _ _, ?_⟩
          refine ⟨_, at0 _ _, ?_⟩
          refine ⟨s, m, n, (.by_ ka), b, a, rfl, s1, by omega, rfl, ok, rfl, hb, hm, rfl, ha, hn, ?_⟩
          refine ⟨rfl, ?_⟩
          refine if_f (b := !(PyData.eqv (.int (tog (rowN (.by_ ka) s m) (rowN (.by_ ka) s n) : Nat)) (.int ((rowN (.by_ ka) s n).length : Nat)))) (by rw [tog_comm, tt, eqv_int]; rfl) ?_
          refine ⟨rfl, ?_⟩
          by_cases one : ((rowN (.by_ ka) s n).length : Nat) = 1
          · refine if_t (b := PyData.eqv (.int ((rowN (.by_ ka) s n).length : Nat)) (.int 1)) (by rw [show (1 : Int) = ((1 : Nat) : Int) from rfl, len_is]; exact decide_eq_true one) ?_
            refine ⟨kd_shaped2 (.by_ ka), ?_⟩
            refine if_f (b := decide (((((rowN (.by_ ka) s n).map fun x => PyData.int (x : Nat)).length : Nat) : Int) > 1)) (decide_eq_false (by rw [List.length_map]; omega)) ?_
            exact done _ _ _ _ _ _ _ _ _ _ _
          · refine if_f (b := PyData.eqv (.int ((rowN (.by_ ka) s n).length : Nat)) (.int 1)) (by rw [show (1 : Int) = ((1 : Nat) : Int) from rfl, len_is]; exact decide_eq_false one) ?_
            exact done _ _ _ _ _ _ _ _ _ _ _
        · refine if_f (b := PyData.eqv (.tuple ((rowN (.by_ ka) s n).map fun x => PyData.int (x : Nat))) (.tuple ((rowN (.by_ ka) s m).map fun x => PyData.int (x : Nat)))) (by rw [eqv_cells]; exact decide_eq_false eq) ?_
          obtain ⟨tt, ow⟩ := tog_due s1 eq
          have dd : ¬ n % s = m % s := fun e => Kd.noConfusion (ow e)
          refine ⟨_, at_head (.by_ ka) n s1, _, at_head (.by_ ka) m s1, rfl, ?_⟩
          refine Mark.at (ρ' := [some (.scr ns), some .st, some (.d false (.int z)), some (.d k3 (.int (s : Nat))), some (.d k4 (.tuple [keyD a n, keyD b m])), some (.d kk (Kd.data (.by_ ka))), some (.d true (.tuple ((rowN (.by_ ka) s n).map fun x => PyData.int (x : Nat)))), some (.d false (shortD s)), some (.d k8 (.int (leastN (.by_ ka) s n : Nat))), some (.d true (.tuple ((rowN (.by_ ka) s m).map fun x => PyData.int (x : Nat)))), some (.d false (.int (tog (rowN (.by_ ka) s n) (rowN (.by_ ka) s m) : Nat))), some (.d false (.int ((if n % s = m % s then 1 else 0 : Nat) : Nat))), some (.d k4 (.str a)), some (.d k4 (.int (n : Nat)))]) (by rw [← due_int (PyData.eqv (.int (n % s : Nat)) (.int (m % s : Nat))) (n % s) (m % s) (len_is _ _)]; rfl) ?_
          refine ⟨rfl, ?_⟩
          refine if_f (b := !(PyData.eqv (.int (tog (rowN (.by_ ka) s n) (rowN (.by_ ka) s m) : Nat)) (.int ((if n % s = m % s then 1 else 0 : Nat) : Nat)))) (by rw [tt, eqv_int]; rfl) ?_
          refine ⟨_, at1 _ _ _, ?_⟩
          refine ⟨_, at0 _ _, ?_⟩
          refine ⟨s, m, n, (.by_ ka), b, a, rfl, s1, by omega, rfl, ok, rfl, hb, hm, rfl, ha, hn, ?_⟩
          refine ⟨rfl, ?_⟩
          refine if_f (b := !(PyData.eqv (.int (tog (rowN (.by_ ka) s m) (rowN (.by_ ka) s n) : Nat)) (.int ((if n % s = m % s then 1 else 0 : Nat) : Nat)))) (by rw [tog_comm, tt, eqv_int]; rfl) ?_
          refine ⟨rfl, ?_⟩
          refine if_f (b := PyData.eqv (.int ((if n % s = m % s then 1 else 0 : Nat) : Nat)) (.int 1)) (by rw [if_neg dd, show (1 : Int) = ((1 : Nat) : Int) from rfl, len_is]; rfl) ?_
          exact done _ _ _ _ _ _ _ _ _ _ _
      | tri =>
        have ci := cells_is (K := .tri) (fun e => Kd.noConfusion e) n s1 s2
        have lle := least_le .tri s n
        have llt := least_lt .tri n s1
        refine Mark.at (ρ' := [some (.scr ns), some .st, some (.d false (.int z)), some (.d k3 (.int (s : Nat))), some (.d k4 (.tuple [keyD a n, keyD b m])), some (.d kk (Kd.data .tri)), none, none, none, none, none, none, none, none]) rfl ?_
        refine ⟨(_ : D), rfl, ?_⟩
        refine ⟨rfl, ?_⟩
        refine Mark.at (ρ' := [some (.scr ns), some .st, some (.d false (.int z)), some (.d k3 (.int (s : Nat))), some (.d k4 (.tuple [keyD a n, keyD b m])), some (.d kk (Kd.data .tri)), none, none, none, none, none, none, none, none]) rfl ?_
        refine ⟨_, at0 _ _, rfl, ?_⟩
        refine Mark.at (ρ' := [some (.scr ns), some .st, some (.d false (.int z)), some (.d k3 (.int (s : Nat))), some (.d k4 (.tuple [keyD a n, keyD b m])), some (.d kk (Kd.data .tri)), none, none, none, none, none, none, some (.d k4 (.str a)), some (.d k4 (.int (n : Nat)))]) rfl ?_
        refine ⟨_, at0 _ _, ?_⟩
        refine ⟨s, n, .tri, a, rfl, s1, by omega, rfl, ok, rfl, ha, hn, ?_⟩
        refine Mark.at (ρ' := [some (.scr ns), some .st, some (.d false (.int z)), some (.d k3 (.int (s : Nat))), some (.d k4 (.tuple [keyD a n, keyD b m])), some (.d kk (Kd.data .tri)), some (.own true (.tuple ((rowN .tri s n).map fun x => PyData.int (x : Nat)))), none, none, none, none, none, some (.d k4 (.str a)), some (.d k4 (.int (n : Nat)))]) rfl ?_
        refine ⟨_, at0 _ _, ?_⟩
        refine ⟨s, n, .tri, a, rfl, s1, by omega, rfl, ok, rfl, ha, hn, fun k9 => ?_⟩
        refine ⟨show ((s : Nat) : Int) ≠ 0 by omega, rfl, ?_⟩
        refine if_f (b := !(PyData.eqv (.int (n % s : Nat)) (.int (((n : Nat) : Int).fmod ((s : Nat) : Int))))) (by rw [nat_fmod, eqv_int]; rfl) ?_
        refine ⟨_, at0 _ _, ?_⟩
        refine ⟨s, n, .tri, a, rfl, s1, s2, rfl, ok, rfl, ha, hn, rfl, ?_⟩
        refine Mark.at (ρ' := [some (.scr ns), some .st, some (.d false (.int z)), some (.d k3 (.int (s : Nat))), some (.d k4 (.tuple [keyD a n, keyD b m])), some (.d kk (Kd.data .tri)), some (.d true (.tuple ((rowN .tri s n).map fun x => PyData.int (x : Nat)))), none, none, none, none, none, some (.d k4 (.str a)), some (.d k4 (.int (n : Nat)))]) rfl ?_
        refine ⟨(_ : D), rfl, ?_⟩
        refine ⟨rfl, ?_⟩
        refine ⟨s, .tri, rfl, s1, s2, rfl, ok, fun e => Kd.noConfusion e, ?_⟩
        refine ⟨rfl, ?_⟩
        refine if_f (b := !(PyData.eqv (.int (prodN .tri (ppN s) : Nat)) (.int (((rowN .tri s n).map fun x => PyData.int (x : Nat)).length : Nat)))) (by rw [← ci.1, List.length_map, eqv_int]; rfl) ?_
        refine ⟨s, .tri, rfl, s1, by omega, rfl, ok, fun e => Kd.noConfusion e, ?_⟩
        refine ⟨rfl, rfl, ?_⟩
        refine if_f (b := !(PyData.eqv (.bool (meetsB .tri s)) (.bool (PyData.eqv (.int (((rowN .tri s n).map fun x => PyData.int (x : Nat)).length : Nat)) (.int (s : Nat)))))) (by rw [List.length_map, len_is, ci.2, eqv_bool]; rfl) ?_
        refine Mark.at (ρ' := [some (.scr ns), some .st, some (.d false (.int z)), some (.d k3 (.int (s : Nat))), some (.d k4 (.tuple [keyD a n, keyD b m])), some (.d kk (Kd.data .tri)), some (.d true (.tuple ((rowN .tri s n).map fun x => PyData.int (x : Nat)))), none, none, none, none, none, some (.d k4 (.str a)), some (.d k4 (.int (n : Nat)))]) rfl ?_
        refine .inr ⟨s, rfl, s1, by omega, ?_⟩
        refine Mark.at (ρ' := [some (.scr ns), some .st, some (.d false (.int z)), some (.d k3 (.int (s : Nat))), some (.d k4 (.tuple [keyD a n, keyD b m])), some (.d kk (Kd.data .tri)), some (.d true (.tuple ((rowN .tri s n).map fun x => PyData.int (x : Nat)))), some (.d false (shortD s)), none, none, none, none, some (.d k4 (.str a)), some (.d k4 (.int (n : Nat)))]) rfl ?_
        refine ⟨kd_shaped2 .tri, ?_⟩
        refine Mark.at (ρ' := [some (.scr ns), some .st, some (.d false (.int z)), some (.d k3 (.int (s : Nat))), some (.d k4 (.tuple [keyD a n, keyD b m])), some (.d kk (Kd.data .tri)), some (.d true (.tuple ((rowN .tri s n).map fun x => PyData.int (x : Nat)))), some (.d false (shortD s)), none, none, none, none, some (.d k4 (.str a)), some (.d k4 (.int (n : Nat)))]) rfl ?_
        refine ⟨s, n, .tri, rfl, s1, s2, rfl, ok, rfl, hn, fun k8 => ?_⟩
        refine Mark.at (ρ' := [some (.scr ns), some .st, some (.d false (.int z)), some (.d k3 (.int (s : Nat))), some (.d k4 (.tuple [keyD a n, keyD b m])), some (.d kk (Kd.data .tri)), some (.d true (.tuple ((rowN .tri s n).map fun x => PyData.int (x : Nat)))), some (.d false (shortD s)), some (.d k8 (.int (leastN .tri s n : Nat))), none, none, none, some (.d k4 (.str a)), some (.d k4 (.int (n : Nat)))]) rfl ?_
        refine if_f (b := decide (((leastN .tri s n : Nat) : Int) > (n : Nat))) (decide_eq_false (by omega)) ?_
        refine ⟨s, leastN .tri s n, .tri, "any", rfl, s1, by omega, rfl, ok, rfl, by decide, by omega, ?_⟩
        refine ⟨eqOk_cells _ _, ?_⟩
        refine if_f (b := !(PyData.eqv (.tuple ((rowN .tri s (leastN .tri s n)).map fun x => PyData.int (x : Nat))) (.tuple ((rowN .tri s n).map fun x => PyData.int (x : Nat))))) (by rw [eqv_cells, decide_eq_true (least_row .tri n s1)]; rfl) ?_
        refine ⟨s, .tri, rfl, s1, by omega, rfl, ok, fun k9 => ?_⟩
        refine if_f (b := decide (((leastN .tri s n : Nat) : Int) ≥ (unN .tri s : Nat))) (decide_eq_false (by omega)) ?_
        refine Mark.at (ρ' := [some (.scr ns), some .st, some (.d false (.int z)), some (.d k3 (.int (s : Nat))), some (.d k4 (.tuple [keyD a n, keyD b m])), some (.d kk (Kd.data .tri)), some (.d true (.tuple ((rowN .tri s n).map fun x => PyData.int (x : Nat)))), some (.d false (shortD s)), some (.d k8 (.int (leastN .tri s n : Nat))), none, none, none, some (.d k4 (.str a)), some (.d k4 (.int (n : Nat)))]) rfl ?_
        refine ⟨s, n, .tri, rfl, s1, s2, rfl, ok, rfl, hn, rfl, ?_⟩
        refine Mark.at (ρ' := [some (.scr ns), some .st, some (.d false (.int z)), some (.d k3 (.int (s : Nat))), some (.d k4 (.tuple [keyD a n, keyD b m])), some (.d kk (Kd.data .tri)), some (.d true (.tuple ((rowN .tri s n).map fun x => PyData.int (x : Nat)))), some (.d false (shortD s)), some (.d k8 (.int (leastN .tri s n : Nat))), none, none, none, some (.d k4 (.str a)), some (.d k4 (.int (n : Nat)))]) rfl ?_
        refine ⟨_, at1 _ _ _, ?_⟩
        refine ⟨s, m, .tri, b, rfl, s1, by omega, rfl, ok, rfl, hb, hm, ?_⟩
        refine Mark.at (ρ' := [some (.scr ns), some .st, some (.d false (.int z)), some (.d k3 (.int (s : Nat))), some (.d k4 (.tuple [keyD a n, keyD b m])), some (.d kk (Kd.data .tri)), some (.d true (.tuple ((rowN .tri s n).map fun x => PyData.int (x : Nat)))), some (.d false (shortD s)), some (.d k8 (.int (leastN .tri s n : Nat))), some (.own true (.tuple ((rowN .tri s m).map fun x => PyData.int (x : Nat)))), none, none, some (.d k4 (.str a)), some (.d k4 (.int (n : Nat)))]) rfl ?_
        refine ⟨_, at0 _ _, ?_⟩
        refine ⟨_, at1 _ _ _, ?_⟩
        refine ⟨s, n, m, .tri, a, b, rfl, s1, by omega, rfl, ok, rfl, ha, hn, rfl, hb, hm, ?_⟩
        refine Mark.at (ρ' := [some (.scr ns), some .st, some (.d false (.int z)), some (.d k3 (.int (s : Nat))), some (.d k4 (.tuple [keyD a n, keyD b m])), some (.d kk (Kd.data .tri)), some (.d true (.tuple ((rowN .tri s n).map fun x => PyData.int (x : Nat)))), some (.d false (shortD s)), some (.d k8 (.int (leastN .tri s n : Nat))), some (.own true (.tuple ((rowN .tri s m).map fun x => PyData.int (x : Nat)))), some (.d false (.int (tog (rowN .tri s n) (rowN .tri s m) : Nat))), none, some (.d k4 (.str a)), some (.d k4 (.int (n : Nat)))]) rfl ?_
        refine ⟨eqOk_cells _ _, ?_⟩
        by_cases eq : rowN .tri s n = rowN .tri s m
        · refine if_t (b := PyData.eqv (.tuple ((rowN .tri s n).map fun x => PyData.int (x : Nat))) (.tuple ((rowN .tri s m).map fun x => PyData.int (x : Nat)))) (by rw [eqv_cells]; exact decide_eq_true eq) ?_
          have tt : tog (rowN .tri s n) (rowN .tri s m) = (rowN .tri s n).length := by rw [← eq]; exact tog_self _
          refine Mark.at (ρ' := [some (.scr ns), some .st, some (.d false (.int z)), some (.d k3 (.int (s : Nat))), some (.d k4 (.tuple [keyD a n, keyD b m])), some (.d kk (Kd.data .tri)), some (.d true (.tuple ((rowN .tri s n).map fun x => PyData.int (x : Nat)))), some (.d false (shortD s)), some (.d k8 (.int (leastN .tri s n : Nat))), some (.d true (.tuple ((rowN .tri s m).map fun x => PyData.int (x : Nat)))), some (.d false (.int (tog (rowN .tri s n) (rowN .tri s m) : Nat))), some (.d false (.int ((rowN .tri s n).length : Nat))), some (.d k4 (.str a)), some (.d k4 (.int (n : Nat)))]) (by rw [← List.length_map (f := fun x : Nat => PyData.int (x : Nat))]; rfl) ?_
          refine ⟨rfl, ?_⟩
          refine if_f (b := !(PyData.eqv (.int (tog (rowN .tri s n) (rowN .tri s m) : Nat)) (.int ((rowN .tri s n).length : Nat)))) (by rw [tt, eqv_int]; rfl) ?_
          refine ⟨_, at1 _ _ _, ?_⟩
          refine ⟨_, at0 _ _, ?_⟩
          refine ⟨s, m, n, .tri, b, a, rfl, s1, by omega, rfl, ok, rfl, hb, hm, rfl, ha, hn, ?_⟩
          refine ⟨rfl, ?_⟩
          refine if_f (b := !(PyData.eqv (.int (tog (rowN .tri s m) (rowN .tri s n) : Nat)) (.int ((rowN .tri s n).length : Nat)))) (by rw [tog_comm, tt, eqv_int]; rfl) ?_
          refine ⟨rfl, ?_⟩
          by_cases one : ((rowN .tri s n).length : Nat) = 1
          · refine if_t (b := PyData.eqv (.int ((rowN .tri s n).length : Nat)) (.int 1)) (by rw [show (1 : Int) = ((1 : Nat) : Int) from rfl, len_is]; exact decide_eq_true one) ?_
            refine ⟨kd_shaped2 .tri, ?_⟩
            refine if_f (b := decide (((((rowN .tri s n).map fun x => PyData.int (x : Nat)).length : Nat) : Int) > 1)) (decide_eq_false (by rw [List.length_map]; omega)) ?_
            exact done _ _ _ _ _ _ _ _ _ _ _
          · refine if_f (b := PyData.eqv (.int ((rowN .tri s n).length : Nat)) (.int 1)) (by rw [show (1 : Int) = ((1 : Nat) : Int) from rfl, len_is]; exact decide_eq_false one) ?_
            exact done _ _ _ _ _ _ _ _ _ _ _
        · refine if_f (b := PyData.eqv (.tuple ((rowN .tri s n).map fun x => PyData.int (x : Nat))) (.tuple ((rowN .tri s m).map fun x => PyData.int (x : Nat)))) (by rw [eqv_cells]; exact decide_eq_false eq) ?_
          obtain ⟨tt, ow⟩ := tog_due s1 eq
          have dd : ¬ n % s = m % s := fun e => Kd.noConfusion (ow e)
          refine ⟨_, at_head .tri n s1, _, at_head .tri m s1, rfl, ?_⟩
          refine Mark.at (ρ' := [some (.scr ns), some .st, some (.d false (.int z)), some (.d k3 (.int (s : Nat))), some (.d k4 (.tuple [keyD a n, keyD b m])), some (.d kk (Kd.data .tri)), some (.d true (.tuple ((rowN .tri s n).map fun x => PyData.int (x : Nat)))), some (.d false (shortD s)), some (.d k8 (.int (leastN .tri s n : Nat))), some (.d true (.tuple ((rowN .tri s m).map fun x => PyData.int (x : Nat)))), some (.d false (.int (tog (rowN .tri s n) (rowN .tri s m) : Nat))), some (.d false (.int ((if n % s = m % s then 1 else 0 : Nat) : Nat))), some (.d k4 (.str a)), some (.d k4 (.int (n : Nat)))]) (by rw [← due_int (PyData.eqv (.int (n % s : Nat)) (.int (m % s : Nat))) (n % s) (m % s) (len_is _ _)]; rfl) ?_
          refine ⟨rfl, ?_⟩
          refine if_f (b := !(PyData.eqv (.int (tog (rowN .tri s n) (rowN .tri s m) : Nat)) (.int ((if n % s = m % s then 1 else 0 : Nat) : Nat)))) (by rw [tt, eqv_int]; rfl) ?_
          refine ⟨_, at1 _ _ _, ?_⟩
          refine ⟨_, at0 _ _, ?_⟩
          refine ⟨s, m, n, .tri, b, a, rfl, s1, by omega, rfl, ok, rfl, hb, hm, rfl, ha, hn, ?_⟩
          refine ⟨rfl, ?_⟩
          refine if_f (b := !(PyData.eqv (.int (tog (rowN .tri s m) (rowN .tri s n) : Nat)) (.int ((if n % s = m % s then 1 else 0 : Nat) : Nat)))) (by rw [tog_comm, tt, eqv_int]; rfl) ?_
          refine ⟨rfl, ?_⟩
          refine if_f (b := PyData.eqv (.int ((if n % s = m % s then 1 else 0 : Nat) : Nat)) (.int 1)) (by rw [if_neg dd, show (1 : Int) = ((1 : Nat) : Int) from rfl, len_is]; rfl) ?_
          exact done _ _ _ _ _ _ _ _ _ _ _
      | sq kb kc =>
        have ci := cells_is (K := (.sq kb kc)) (fun e => Kd.noConfusion e) n s1 s2
        have lle := least_le (.sq kb kc) s n
        have llt := least_lt (.sq kb kc) n s1
        refine Mark.at (ρ' := [some (.scr ns), some .st, some (.d false (.int z)), some (.d k3 (.int (s : Nat))), some (.d k4 (.tuple [keyD a n, keyD b m])), some (.d kk (Kd.data (.sq kb kc))), none, none, none, none, none, none, none, none]) rfl ?_
        refine ⟨(_ : D), rfl, ?_⟩
        refine ⟨rfl, ?_⟩
        refine Mark.at (ρ' := [some (.scr ns), some .st, some (.d false (.int z)), some (.d k3 (.int (s : Nat))), some (.d k4 (.tuple [keyD a n, keyD b m])), some (.d kk (Kd.data (.sq kb kc))), none, none, none, none, none, none, none, none]) rfl ?_
        refine ⟨_, at0 _ _, rfl, ?_⟩
        refine Mark.at (ρ' := [some (.scr ns), some .st, some (.d false (.int z)), some (.d k3 (.int (s : Nat))), some (.d k4 (.tuple [keyD a n, keyD b m])), some (.d kk (Kd.data (.sq kb kc))), none, none, none, none, none, none, some (.d k4 (.str a)), some (.d k4 (.int (n : Nat)))]) rfl ?_
        refine ⟨_, at0 _ _, ?_⟩
        refine ⟨s, n, (.sq kb kc), a, rfl, s1, by omega, rfl, ok, rfl, ha, hn, ?_⟩
        refine Mark.at (ρ' := [some (.scr ns), some .st, some (.d false (.int z)), some (.d k3 (.int (s : Nat))), some (.d k4 (.tuple [keyD a n, keyD b m])), some (.d kk (Kd.data (.sq kb kc))), some (.own true (.tuple ((rowN (.sq kb kc) s n).map fun x => PyData.int (x : Nat)))), none, none, none, none, none, some (.d k4 (.str a)), some (.d k4 (.int (n : Nat)))]) rfl ?_
        refine ⟨_, at0 _ _, ?_⟩
        refine ⟨s, n, (.sq kb kc), a, rfl, s1, by omega, rfl, ok, rfl, ha, hn, fun k9 => ?_⟩
        refine ⟨show ((s : Nat) : Int) ≠ 0 by omega, rfl, ?_⟩
        refine if_f (b := !(PyData.eqv (.int (n % s : Nat)) (.int (((n : Nat) : Int).fmod ((s : Nat) : Int))))) (by rw [nat_fmod, eqv_int]; rfl) ?_
        refine ⟨_, at0 _ _, ?_⟩
        refine ⟨s, n, (.sq kb kc), a, rfl, s1, s2, rfl, ok, rfl, ha, hn, rfl, ?_⟩
        refine Mark.at (ρ' := [some (.scr ns), some .st, some (.d false (.int z)), some (.d k3 (.int (s : Nat))), some (.d k4 (.tuple [keyD a n, keyD b m])), some (.d kk (Kd.data (.sq kb kc))), some (.d true (.tuple ((rowN (.sq kb kc) s n).map fun x => PyData.int (x : Nat)))), none, none, none, none, none, some (.d k4 (.str a)), some (.d k4 (.int (n : Nat)))]) rfl ?_
        refine ⟨(_ : D), rfl, ?_⟩
        refine ⟨rfl, ?_⟩
        refine ⟨s, (.sq kb kc), rfl, s1, s2, rfl, ok, fun e => Kd.noConfusion e, ?_⟩
        refine ⟨rfl, ?_⟩
        refine if_f (b := !(PyData.eqv (.int (prodN (.sq kb kc) (ppN s) : Nat)) (.int (((rowN (.sq kb kc) s n).map fun x => PyData.int (x : Nat)).length : Nat)))) (by rw [← ci.1, List.length_map, eqv_int]; rfl) ?_
        refine ⟨s, (.sq kb kc), rfl, s1, by omega, rfl, ok, fun e => Kd.noConfusion e, ?_⟩
        refine ⟨rfl, rfl, ?_⟩
        refine if_f (b := !(PyData.eqv (.bool (meetsB (.sq kb kc) s)) (.bool (PyData.eqv (.int (((rowN (.sq kb kc) s n).map fun x => PyData.int (x : Nat)).length : Nat)) (.int (s : Nat)))))) (by rw [List.length_map, len_is, ci.2, eqv_bool]; rfl) ?_
        refine Mark.at (ρ' := [some (.scr ns), some .st, some (.d false (.int z)), some (.d k3 (.int (s : Nat))), some (.d k4 (.tuple [keyD a n, keyD b m])), some (.d kk (Kd.data (.sq kb kc))), some (.d true (.tuple ((rowN (.sq kb kc) s n).map fun x => PyData.int (x : Nat)))), none, none, none, none, none, some (.d k4 (.str a)), some (.d k4 (.int (n : Nat)))]) rfl ?_
        refine .inr ⟨s, rfl, s1, by omega, ?_⟩
        refine Mark.at (ρ' := [some (.scr ns), some .st, some (.d false (.int z)), some (.d k3 (.int (s : Nat))), some (.d k4 (.tuple [keyD a n, keyD b m])), some (.d kk (Kd.data (.sq kb kc))), some (.d true (.tuple ((rowN (.sq kb kc) s n).map fun x => PyData.int (x : Nat)))), some (.d false (shortD s)), none, none, none, none, some (.d k4 (.str a)), some (.d k4 (.int (n : Nat)))]) rfl ?_
        refine ⟨kd_shaped2 (.sq kb kc), ?_⟩
        refine Mark.at (ρ' := [some (.scr ns), some .st, some (.d false (.int z)), some (.d k3 (.int (s : Nat))), some (.d k4 (.tuple [keyD a n, keyD b m])), some (.d kk (Kd.data (.sq kb kc))), some (.d true (.tuple ((rowN (.sq kb kc) s n).map fun x => PyData.int (x : Nat)))), some (.d false (shortD s)), none, none, none, none, some (.d k4 (.str a)), some (.d k4 (.int (n : Nat)))]) rfl ?_
        refine ⟨s, n, (.sq kb kc), rfl, s1, s2, rfl, ok, rfl, hn, fun k8 => ?_⟩
        refine Mark.at (ρ' := [some (.scr ns), some .st, some (.d false (.int z)), some (.d k3 (.int (s : Nat))), some (.d k4 (.tuple [keyD a n, keyD b m])), some (.d kk (Kd.data (.sq kb kc))), some (.d true (.tuple ((rowN (.sq kb kc) s n).map fun x => PyData.int (x : Nat)))), some (.d false (shortD s)), some (.d k8 (.int (leastN (.sq kb kc) s n : Nat))), none, none, none, some (.d k4 (.str a)), some (.d k4 (.int (n : Nat)))]) rfl ?_
        refine if_f (b := decide (((leastN (.sq kb kc) s n : Nat) : Int) > (n : Nat))) (decide_eq_false (by omega)) ?_
        refine ⟨s, leastN (.sq kb kc) s n, (.sq kb kc), "any", rfl, s1, by omega, rfl, ok, rfl, by decide, by omega, ?_⟩
        refine ⟨eqOk_cells _ _, ?_⟩
        refine if_f (b := !(PyData.eqv (.tuple ((rowN (.sq kb kc) s (leastN (.sq kb kc) s n)).map fun x => PyData.int (x : Nat))) (.tuple ((rowN (.sq kb kc) s n).map fun x => PyData.int (x : Nat))))) (by rw [eqv_cells, decide_eq_true (least_row (.sq kb kc) n s1)]; rfl) ?_
        refine ⟨s, (.sq kb kc), rfl, s1, by omega, rfl, ok, fun k9 => ?_⟩
        refine if_f (b := decide (((leastN (.sq kb kc) s n : Nat) : Int) ≥ (unN (.sq kb kc) s : Nat))) (decide_eq_false (by omega)) ?_
        refine Mark.at (ρ' := [some (.scr ns), some .st, some (.d false (.int z)), some (.d k3 (.int (s : Nat))), some (.d k4 (.tuple [keyD a n, keyD b m])), some (.d kk (Kd.data (.sq kb kc))), some (.d true (.tuple ((rowN (.sq kb kc) s n).map fun x => PyData.int (x : Nat)))), some (.d false (shortD s)), some (.d k8 (.int (leastN (.sq kb kc) s n : Nat))), none, none, none, some (.d k4 (.str a)), some (.d k4 (.int (n : Nat)))]) rfl ?_
        refine ⟨s, n, (.sq kb kc), rfl, s1, s2, rfl, ok, rfl, hn, rfl, ?_⟩
        refine Mark.at (ρ' := [some (.scr ns), some .st, some (.d false (.int z)), some (.d k3 (.int (s : Nat))), some (.d k4 (.tuple [keyD a n, keyD b m])), some (.d kk (Kd.data (.sq kb kc))), some (.d true (.tuple ((rowN (.sq kb kc) s n).map fun x => PyData.int (x : Nat)))), some (.d false (shortD s)), some (.d k8 (.int (leastN (.sq kb kc) s n : Nat))), none, none, none, some (.d k4 (.str a)), some (.d k4 (.int (n : Nat)))]) rfl ?_
        refine ⟨_, at1 _ _ _, ?_⟩
        refine ⟨s, m, (.sq kb kc), b, rfl, s1, by omega, rfl, ok, rfl, hb, hm, ?_⟩
        refine Mark.at (ρ' := [some (.scr ns), some .st, some (.d false (.int z)), some (.d k3 (.int (s : Nat))), some (.d k4 (.tuple [keyD a n, keyD b m])), some (.d kk (Kd.data (.sq kb kc))), some (.d true (.tuple ((rowN (.sq kb kc) s n).map fun x => PyData.int (x : Nat)))), some (.d false (shortD s)), some (.d k8 (.int (leastN (.sq kb kc) s n : Nat))), some (.own true (.tuple ((rowN (.sq kb kc) s m).map fun x => PyData.int (x : Nat)))), none, none, some (.d k4 (.str a)), some (.d k4 (.int (n : Nat)))]) rfl ?_
        refine ⟨_, at0 _ _, ?_⟩
        refine ⟨_, at1 _ _ _, ?_⟩
        refine ⟨s, n, m, (.sq kb kc), a, b, rfl, s1, by omega, rfl, ok, rfl, ha, hn, rfl, hb, hm, ?_⟩
        refine Mark.at (ρ' := [some (.scr ns), some .st, some (.d false (.int z)), some (.d k3 (.int (s : Nat))), some (.d k4 (.tuple [keyD a n, keyD b m])), some (.d kk (Kd.data (.sq kb kc))), some (.d true (.tuple ((rowN (.sq kb kc) s n).map fun x => PyData.int (x : Nat)))), some (.d false (shortD s)), some (.d k8 (.int (leastN (.sq kb kc) s n : Nat))), some (.own true (.tuple ((rowN (.sq kb kc) s m).map fun x => PyData.int (x : Nat)))), some (.d false (.int (tog (rowN (.sq kb kc) s n) (rowN (.sq kb kc) s m) : Nat))), none, some (.d k4 (.str a)), some (.d k4 (.int (n : Nat)))]) rfl ?_
        refine ⟨eqOk_cells _ _, ?_⟩
        by_cases eq : rowN (.sq kb kc) s n = rowN (.sq kb kc) s m
        · refine if_t (b := PyData.eqv (.tuple ((rowN (.sq kb kc) s n).map fun x => PyData.int (x : Nat))) (.tuple ((rowN (.sq kb kc) s m).map fun x => PyData.int (x : Nat)))) (by rw [eqv_cells]; exact decide_eq_true eq) ?_
          have tt : tog (rowN (.sq kb kc) s n) (rowN (.sq kb kc) s m) = (rowN (.sq kb kc) s n).length := by rw [← eq]; exact tog_self _
          refine Mark.at (ρ' := [some (.scr ns), some .st, some (.d false (.int z)), some (.d k3 (.int (s : Nat))), some (.d k4 (.tuple [keyD a n, keyD b m])), some (.d kk (Kd.data (.sq kb kc))), some (.d true (.tuple ((rowN (.sq kb kc) s n).map fun x => PyData.int (x : Nat)))), some (.d false (shortD s)), some (.d k8 (.int (leastN (.sq kb kc) s n : Nat))), some (.d true (.tuple ((rowN (.sq kb kc) s m).map fun x => PyData.int (x : Nat)))), some (.d false (.int (tog (rowN (.sq kb kc) s n) (rowN (.sq kb kc) s m) : Nat))), some (.d false (.int ((rowN (.sq kb kc) s n).length : Nat))), some (.d k4 (.str a)), some (.d k4 (.int (n : Nat)))]) (by rw [← List.length_map (f := fun x : Nat => PyData.int (x : Nat))]; rfl) ?_
          refine ⟨rfl, ?_⟩
          refine if_f (b := !(PyData.eqv (.int (tog (rowN (.sq kb kc) s n) (rowN (.sq kb kc) s m) : Nat)) (.int ((rowN (.sq kb kc) s n).length : Nat)))) (by rw [tt, eqv_int]; rfl) ?_
          refine ⟨_, at1 _ _ _, ?_⟩
          refine ⟨_, at0 _ _, ?_⟩
          refine ⟨s, m, n, (.sq kb kc), b, a, rfl, s1, by omega, rfl, ok, rfl, hb, hm, rfl, ha, hn, ?_⟩
          refine ⟨rfl, ?_⟩
          refine if_f (b := !(PyData.eqv (.int (tog (rowN (.sq kb kc) s m) (rowN (.sq kb kc) s n) : Nat)) (.int ((rowN (.sq kb kc) s n).length : Nat)))) (by rw [tog_comm, tt, eqv_int]; rfl) ?_
          refine ⟨rfl, ?_⟩
          by_cases one : ((rowN (.sq kb kc) s n).length : Nat) = 1
          · refine if_t (b := PyData.eqv (.int ((rowN (.sq kb kc) s n).length : Nat)) (.int 1)) (by rw [show (1 : Int) = ((1 : Nat) : Int) from rfl, len_is]; exact decide_eq_true one) ?_
            refine ⟨kd_shaped2 (.sq kb kc), ?_⟩
            refine if_f (b := decide (((((rowN (.sq kb kc) s n).map fun x => PyData.int (x : Nat)).length : Nat) : Int) > 1)) (decide_eq_false (by rw [List.length_map]; omega)) ?_
            exact done _ _ _ _ _ _ _ _ _ _ _
          · refine if_f (b := PyData.eqv (.int ((rowN (.sq kb kc) s n).length : Nat)) (.int 1)) (by rw [show (1 : Int) = ((1 : Nat) : Int) from rfl, len_is]; exact decide_eq_false one) ?_
            exact done _ _ _ _ _ _ _ _ _ _ _
        · refine if_f (b := PyData.eqv (.tuple ((rowN (.sq kb kc) s n).map fun x => PyData.int (x : Nat))) (.tuple ((rowN (.sq kb kc) s m).map fun x => PyData.int (x : Nat)))) (by rw [eqv_cells]; exact decide_eq_false eq) ?_
          obtain ⟨tt, ow⟩ := tog_due s1 eq
          have dd : ¬ n % s = m % s := fun e => Kd.noConfusion (ow e)
          refine ⟨_, at_head (.sq kb kc) n s1, _, at_head (.sq kb kc) m s1, rfl, ?_⟩
          refine Mark.at (ρ' := [some (.scr ns), some .st, some (.d false (.int z)), some (.d k3 (.int (s : Nat))), some (.d k4 (.tuple [keyD a n, keyD b m])), some (.d kk (Kd.data (.sq kb kc))), some (.d true (.tuple ((rowN (.sq kb kc) s n).map fun x => PyData.int (x : Nat)))), some (.d false (shortD s)), some (.d k8 (.int (leastN (.sq kb kc) s n : Nat))), some (.d true (.tuple ((rowN (.sq kb kc) s m).map fun x => PyData.int (x : Nat)))), some (.d false (.int (tog (rowN (.sq kb kc) s n) (rowN (.sq kb kc) s m) : Nat))), some (.d false (.int ((if n % s = m % s then 1 else 0 : Nat) : Nat))), some (.d k4 (.str a)), some (.d k4 (.int (n : Nat)))]) (by rw [← due_int (PyData.eqv (.int (n % s : Nat)) (.int (m % s : Nat))) (n % s) (m % s) (len_is _ _)]; rfl) ?_
          refine ⟨rfl, ?_⟩
          refine if_f (b := !(PyData.eqv (.int (tog (rowN (.sq kb kc) s n) (rowN (.sq kb kc) s m) : Nat)) (.int ((if n % s = m % s then 1 else 0 : Nat) : Nat)))) (by rw [tt, eqv_int]; rfl) ?_
          refine ⟨_, at1 _ _ _, ?_⟩
          refine ⟨_, at0 _ _, ?_⟩
          refine ⟨s, m, n, (.sq kb kc), b, a, rfl, s1, by omega, rfl, ok, rfl, hb, hm, rfl, ha, hn, ?_⟩
          refine ⟨rfl, ?_⟩
          refine if_f (b := !(PyData.eqv (.int (tog (rowN (.sq kb kc) s m) (rowN (.sq kb kc) s n) : Nat)) (.int ((if n % s = m % s then 1 else 0 : Nat) : Nat)))) (by rw [tog_comm, tt, eqv_int]; rfl) ?_
          refine ⟨rfl, ?_⟩
          refine if_f (b := PyData.eqv (.int ((if n % s = m % s then 1 else 0 : Nat) : Nat)) (.int 1)) (by rw [if_neg dd, show (1 : Int) = ((1 : Nat) : Int) from rfl, len_is]; rfl) ?_
          exact done _ _ _ _ _ _ _ _ _ _ _
      | own =>
        refine Mark.at (ρ' := [some (.scr ns), some .st, some (.d false (.int z)), some (.d k3 (.int (s : Nat))), some (.d k4 (.tuple [keyD a n, keyD b m])), some (.d kk (Kd.data .own)), none, none, none, none, none, none, none, none]) rfl ?_
        refine ⟨(_ : D), rfl, ?_⟩
        refine ⟨rfl, ?_⟩
        have lle := least_le .own s n
        have llt := least_lt .own n s1
        by_cases lt : (rowN .own s n).length < s
        · obtain ⟨x, ex, hxn⟩ := short_due s1 (show s ≤ 4096 by omega) lt
          have eD : shortD s = .int (x : Nat) := by unfold shortD; rw [ex]
          refine Mark.at (ρ' := [some (.scr ns), some .st, some (.d false (.int z)), some (.d k3 (.int (s : Nat))), some (.d k4 (.tuple [keyD a n, keyD b m])), some (.d kk (Kd.data .own)), none, none, none, none, none, none, none, none]) rfl ?_
          refine ⟨_, at0 _ _, rfl, ?_⟩
          refine Mark.at (ρ' := [some (.scr ns), some .st, some (.d false (.int z)), some (.d k3 (.int (s : Nat))), some (.d k4 (.tuple [keyD a n, keyD b m])), some (.d kk (Kd.data .own)), none, none, none, none, none, none, some (.d k4 (.str a)), some (.d k4 (.int (n : Nat)))]) rfl ?_
          refine ⟨_, at0 _ _, ?_⟩
          refine ⟨s, n, .own, a, rfl, s1, by omega, rfl, ok, rfl, ha, hn, ?_⟩
          refine Mark.at (ρ' := [some (.scr ns), some .st, some (.d false (.int z)), some (.d k3 (.int (s : Nat))), some (.d k4 (.tuple [keyD a n, keyD b m])), some (.d kk (Kd.data .own)), some (.own true (.tuple ((rowN .own s n).map fun x => PyData.int (x : Nat)))), none, none, none, none, none, some (.d k4 (.str a)), some (.d k4 (.int (n : Nat)))]) rfl ?_
          refine ⟨_, at0 _ _, ?_⟩
          refine ⟨s, n, .own, a, rfl, s1, by omega, rfl, ok, rfl, ha, hn, fun k9 => ?_⟩
          refine ⟨show ((s : Nat) : Int) ≠ 0 by omega, rfl, ?_⟩
          refine if_f (b := !(PyData.eqv (.int (n % s : Nat)) (.int (((n : Nat) : Int).fmod ((s : Nat) : Int))))) (by rw [nat_fmod, eqv_int]; rfl) ?_
          refine ⟨_, at0 _ _, ?_⟩
          refine ⟨s, n, .own, a, rfl, s1, s2, rfl, ok, rfl, ha, hn, rfl, ?_⟩
          refine Mark.at (ρ' := [some (.scr ns), some .st, some (.d false (.int z)), some (.d k3 (.int (s : Nat))), some (.d k4 (.tuple [keyD a n, keyD b m])), some (.d kk (Kd.data .own)), some (.d true (.tuple ((rowN .own s n).map fun x => PyData.int (x : Nat)))), none, none, none, none, none, some (.d k4 (.str a)), some (.d k4 (.int (n : Nat)))]) rfl ?_
          refine ⟨(_ : D), rfl, ?_⟩
          refine ⟨rfl, ?_⟩
          refine Mark.at (ρ' := [some (.scr ns), some .st, some (.d false (.int z)), some (.d k3 (.int (s : Nat))), some (.d k4 (.tuple [keyD a n, keyD b m])), some (.d kk (Kd.data .own)), some (.d true (.tuple ((rowN .own s n).map fun x => PyData.int (x : Nat)))), none, none, none, none, none, some (.d k4 (.str a)), some (.d k4 (.int (n : Nat)))]) rfl ?_
          refine .inr ⟨s, rfl, s1, by omega, ?_⟩
          rw [eD]
          refine Mark.at (ρ' := [some (.scr ns), some .st, some (.d false (.int z)), some (.d k3 (.int (s : Nat))), some (.d k4 (.tuple [keyD a n, keyD b m])), some (.d kk (Kd.data .own)), some (.d true (.tuple ((rowN .own s n).map fun x => PyData.int (x : Nat)))), some (.d false (.int (x : Nat))), none, none, none, none, some (.d k4 (.str a)), some (.d k4 (.int (n : Nat)))]) rfl ?_
          refine ⟨kd_shaped2 .own, ?_⟩
          refine if_t (b := decide (((((rowN .own s n).map fun x => PyData.int (x : Nat)).length : Nat) : Int) < (s : Nat))) (decide_eq_true (by rw [List.length_map]; omega)) ?_
          refine if_f (b := decide (((n : Nat) : Int) < (x : Nat))) (decide_eq_false (by omega)) ?_
          refine Mark.at (ρ' := [some (.scr ns), some .st, some (.d false (.int z)), some (.d k3 (.int (s : Nat))), some (.d k4 (.tuple [keyD a n, keyD b m])), some (.d kk (Kd.data .own)), some (.d true (.tuple ((rowN .own s n).map fun x => PyData.int (x : Nat)))), some (.d false (.int (x : Nat))), none, none, none, none, some (.d k4 (.str a)), some (.d k4 (.int (n : Nat)))]) rfl ?_
          refine ⟨s, n, .own, rfl, s1, s2, rfl, ok, rfl, hn, fun k8 => ?_⟩
          refine Mark.at (ρ' := [some (.scr ns), some .st, some (.d false (.int z)), some (.d k3 (.int (s : Nat))), some (.d k4 (.tuple [keyD a n, keyD b m])), some (.d kk (Kd.data .own)), some (.d true (.tuple ((rowN .own s n).map fun x => PyData.int (x : Nat)))), some (.d false (.int (x : Nat))), some (.d k8 (.int (leastN .own s n : Nat))), none, none, none, some (.d k4 (.str a)), some (.d k4 (.int (n : Nat)))]) rfl ?_
          refine if_f (b := decide (((leastN .own s n : Nat) : Int) > (n : Nat))) (decide_eq_false (by omega)) ?_
          refine ⟨s, leastN .own s n, .own, "any", rfl, s1, by omega, rfl, ok, rfl, by decide, by omega, ?_⟩
          refine ⟨eqOk_cells _ _, ?_⟩
          refine if_f (b := !(PyData.eqv (.tuple ((rowN .own s (leastN .own s n)).map fun x => PyData.int (x : Nat))) (.tuple ((rowN .own s n).map fun x => PyData.int (x : Nat))))) (by rw [eqv_cells, decide_eq_true (least_row .own n s1)]; rfl) ?_
          refine ⟨s, .own, rfl, s1, by omega, rfl, ok, fun k9 => ?_⟩
          refine if_f (b := decide (((leastN .own s n : Nat) : Int) ≥ (unN .own s : Nat))) (decide_eq_false (by omega)) ?_
          refine Mark.at (ρ' := [some (.scr ns), some .st, some (.d false (.int z)), some (.d k3 (.int (s : Nat))), some (.d k4 (.tuple [keyD a n, keyD b m])), some (.d kk (Kd.data .own)), some (.d true (.tuple ((rowN .own s n).map fun x => PyData.int (x : Nat)))), some (.d false (.int (x : Nat))), some (.d k8 (.int (leastN .own s n : Nat))), none, none, none, some (.d k4 (.str a)), some (.d k4 (.int (n : Nat)))]) rfl ?_
          refine ⟨s, n, .own, rfl, s1, s2, rfl, ok, rfl, hn, rfl, ?_⟩
          refine Mark.at (ρ' := [some (.scr ns), some .st, some (.d false (.int z)), some (.d k3 (.int (s : Nat))), some (.d k4 (.tuple [keyD a n, keyD b m])), some (.d kk (Kd.data .own)), some (.d true (.tuple ((rowN .own s n).map fun x => PyData.int (x : Nat)))), some (.d false (.int (x : Nat))), some (.d k8 (.int (leastN .own s n : Nat))), none, none, none, some (.d k4 (.str a)), some (.d k4 (.int (n : Nat)))]) rfl ?_
          refine ⟨_, at1 _ _ _, ?_⟩
          refine ⟨s, m, .own, b, rfl, s1, by omega, rfl, ok, rfl, hb, hm, ?_⟩
          refine Mark.at (ρ' := [some (.scr ns), some .st, some (.d false (.int z)), some (.d k3 (.int (s : Nat))), some (.d k4 (.tuple [keyD a n, keyD b m])), some (.d kk (Kd.data .own)), some (.d true (.tuple ((rowN .own s n).map fun x => PyData.int (x : Nat)))), some (.d false (.int (x : Nat))), some (.d k8 (.int (leastN .own s n : Nat))), some (.own true (.tuple ((rowN .own s m).map fun x => PyData.int (x : Nat)))), none, none, some (.d k4 (.str a)), some (.d k4 (.int (n : Nat)))]) rfl ?_
          refine ⟨_, at0 _ _, ?_⟩
          refine ⟨_, at1 _ _ _, ?_⟩
          refine ⟨s, n, m, .own, a, b, rfl, s1, by omega, rfl, ok, rfl, ha, hn, rfl, hb, hm, ?_⟩
          refine Mark.at (ρ' := [some (.scr ns), some .st, some (.d false (.int z)), some (.d k3 (.int (s : Nat))), some (.d k4 (.tuple [keyD a n, keyD b m])), some (.d kk (Kd.data .own)), some (.d true (.tuple ((rowN .own s n).map fun x => PyData.int (x : Nat)))), some (.d false (.int (x : Nat))), some (.d k8 (.int (leastN .own s n : Nat))), some (.own true (.tuple ((rowN .own s m).map fun x => PyData.int (x : Nat)))), some (.d false (.int (tog (rowN .own s n) (rowN .own s m) : Nat))), none, some (.d k4 (.str a)), some (.d k4 (.int (n : Nat)))]) rfl ?_
          refine ⟨eqOk_cells _ _, ?_⟩
          by_cases eq : rowN .own s n = rowN .own s m
          · refine if_t (b := PyData.eqv (.tuple ((rowN .own s n).map fun x => PyData.int (x : Nat))) (.tuple ((rowN .own s m).map fun x => PyData.int (x : Nat)))) (by rw [eqv_cells]; exact decide_eq_true eq) ?_
            have tt : tog (rowN .own s n) (rowN .own s m) = (rowN .own s n).length := by rw [← eq]; exact tog_self _
            refine Mark.at (ρ' := [some (.scr ns), some .st, some (.d false (.int z)), some (.d k3 (.int (s : Nat))), some (.d k4 (.tuple [keyD a n, keyD b m])), some (.d kk (Kd.data .own)), some (.d true (.tuple ((rowN .own s n).map fun x => PyData.int (x : Nat)))), some (.d false (.int (x : Nat))), some (.d k8 (.int (leastN .own s n : Nat))), some (.d true (.tuple ((rowN .own s m).map fun x => PyData.int (x : Nat)))), some (.d false (.int (tog (rowN .own s n) (rowN .own s m) : Nat))), some (.d false (.int ((rowN .own s n).length : Nat))), some (.d k4 (.str a)), some (.d k4 (.int (n : Nat)))]) (by rw [← List.length_map (f := fun x : Nat => PyData.int (x : Nat))]; rfl) ?_
            refine ⟨rfl, ?_⟩
            refine if_f (b := !(PyData.eqv (.int (tog (rowN .own s n) (rowN .own s m) : Nat)) (.int ((rowN .own s n).length : Nat)))) (by rw [tt, eqv_int]; rfl) ?_
            refine ⟨_, at1 _ _ _, ?_⟩
            refine ⟨_, at0 _ _, ?_⟩
            refine ⟨s, m, n, .own, b, a, rfl, s1, by omega, rfl, ok, rfl, hb, hm, rfl, ha, hn, ?_⟩
            refine ⟨rfl, ?_⟩
            refine if_f (b := !(PyData.eqv (.int (tog (rowN .own s m) (rowN .own s n) : Nat)) (.int ((rowN .own s n).length : Nat)))) (by rw [tog_comm, tt, eqv_int]; rfl) ?_
            refine ⟨rfl, ?_⟩
            by_cases one : ((rowN .own s n).length : Nat) = 1
            · refine if_t (b := PyData.eqv (.int ((rowN .own s n).length : Nat)) (.int 1)) (by rw [show (1 : Int) = ((1 : Nat) : Int) from rfl, len_is]; exact decide_eq_true one) ?_
              refine ⟨kd_shaped2 .own, ?_⟩
              exact done _ _ _ _ _ _ _ _ _ _ _
            · refine if_f (b := PyData.eqv (.int ((rowN .own s n).length : Nat)) (.int 1)) (by rw [show (1 : Int) = ((1 : Nat) : Int) from rfl, len_is]; exact decide_eq_false one) ?_
              exact done _ _ _ _ _ _ _ _ _ _ _
          · refine if_f (b := PyData.eqv (.tuple ((rowN .own s n).map fun x => PyData.int (x : Nat))) (.tuple ((rowN .own s m).map fun x => PyData.int (x : Nat)))) (by rw [eqv_cells]; exact decide_eq_false eq) ?_
            obtain ⟨tt, ow⟩ := tog_due s1 eq
            refine ⟨_, at_head .own n s1, _, at_head .own m s1, rfl, ?_⟩
            refine Mark.at (ρ' := [some (.scr ns), some .st, some (.d false (.int z)), some (.d k3 (.int (s : Nat))), some (.d k4 (.tuple [keyD a n, keyD b m])), some (.d kk (Kd.data .own)), some (.d true (.tuple ((rowN .own s n).map fun x => PyData.int (x : Nat)))), some (.d false (.int (x : Nat))), some (.d k8 (.int (leastN .own s n : Nat))), some (.d true (.tuple ((rowN .own s m).map fun x => PyData.int (x : Nat)))), some (.d false (.int (tog (rowN .own s n) (rowN .own s m) : Nat))), some (.d false (.int ((if n % s = m % s then 1 else 0 : Nat) : Nat))), some (.d k4 (.str a)), some (.d k4 (.int (n : Nat)))]) (by rw [← due_int (PyData.eqv (.int (n % s : Nat)) (.int (m % s : Nat))) (n % s) (m % s) (len_is _ _)]; rfl) ?_
            refine ⟨rfl, ?_⟩
            refine if_f (b := !(PyData.eqv (.int (tog (rowN .own s n) (rowN .own s m) : Nat)) (.int ((if n % s = m % s then 1 else 0 : Nat) : Nat)))) (by rw [tt, eqv_int]; rfl) ?_
            refine ⟨_, at1 _ _ _, ?_⟩
            refine ⟨_, at0 _ _, ?_⟩
            refine ⟨s, m, n, .own, b, a, rfl, s1, by omega, rfl, ok, rfl, hb, hm, rfl, ha, hn, ?_⟩
            refine ⟨rfl, ?_⟩
            refine if_f (b := !(PyData.eqv (.int (tog (rowN .own s m) (rowN .own s n) : Nat)) (.int ((if n % s = m % s then 1 else 0 : Nat) : Nat)))) (by rw [tog_comm, tt, eqv_int]; rfl) ?_
            refine ⟨rfl, ?_⟩
            by_cases one : ((if n % s = m % s then 1 else 0 : Nat) : Nat) = 1
            · refine if_t (b := PyData.eqv (.int ((if n % s = m % s then 1 else 0 : Nat) : Nat)) (.int 1)) (by rw [show (1 : Int) = ((1 : Nat) : Int) from rfl, len_is]; exact decide_eq_true one) ?_
              refine ⟨kd_shaped2 .own, ?_⟩
              exact done _ _ _ _ _ _ _ _ _ _ _
            · refine if_f (b := PyData.eqv (.int ((if n % s = m % s then 1 else 0 : Nat) : Nat)) (.int 1)) (by rw [show (1 : Int) = ((1 : Nat) : Int) from rfl, len_is]; exact decide_eq_false one) ?_
              exact done _ _ _ _ _ _ _ _ _ _ _
        · refine Mark.at (ρ' := [some (.scr ns), some .st, some (.d false (.int z)), some (.d k3 (.int (s : Nat))), some (.d k4 (.tuple [keyD a n, keyD b m])), some (.d kk (Kd.data .own)), none, none, none, none, none, none, none, none]) rfl ?_
          refine ⟨_, at0 _ _, rfl, ?_⟩
          refine Mark.at (ρ' := [some (.scr ns), some .st, some (.d false (.int z)), some (.d k3 (.int (s : Nat))), some (.d k4 (.tuple [keyD a n, keyD b m])), some (.d kk (Kd.data .own)), none, none, none, none, none, none, some (.d k4 (.str a)), some (.d k4 (.int (n : Nat)))]) rfl ?_
          refine ⟨_, at0 _ _, ?_⟩
          refine ⟨s, n, .own, a, rfl, s1, by omega, rfl, ok, rfl, ha, hn, ?_⟩
          refine Mark.at (ρ' := [some (.scr ns), some .st, some (.d false (.int z)), some (.d k3 (.int (s : Nat))), some (.d k4 (.tuple [keyD a n, keyD b m])), some (.d kk (Kd.data .own)), some (.own true (.tuple ((rowN .own s n).map fun x => PyData.int (x : Nat)))), none, none, none, none, none, some (.d k4 (.str a)), some (.d k4 (.int (n : Nat)))]) rfl ?_
          refine ⟨_, at0 _ _, ?_⟩
          refine ⟨s, n, .own, a, rfl, s1, by omega, rfl, ok, rfl, ha, hn, fun k9 => ?_⟩
          refine ⟨show ((s : Nat) : Int) ≠ 0 by omega, rfl, ?_⟩
          refine if_f (b := !(PyData.eqv (.int (n % s : Nat)) (.int (((n : Nat) : Int).fmod ((s : Nat) : Int))))) (by rw [nat_fmod, eqv_int]; rfl) ?_
          refine ⟨_, at0 _ _, ?_⟩
          refine ⟨s, n, .own, a, rfl, s1, s2, rfl, ok, rfl, ha, hn, rfl, ?_⟩
          refine Mark.at (ρ' := [some (.scr ns), some .st, some (.d false (.int z)), some (.d k3 (.int (s : Nat))), some (.d k4 (.tuple [keyD a n, keyD b m])), some (.d kk (Kd.data .own)), some (.d true (.tuple ((rowN .own s n).map fun x => PyData.int (x : Nat)))), none, none, none, none, none, some (.d k4 (.str a)), some (.d k4 (.int (n : Nat)))]) rfl ?_
          refine ⟨(_ : D), rfl, ?_⟩
          refine ⟨rfl, ?_⟩
          refine Mark.at (ρ' := [some (.scr ns), some .st, some (.d false (.int z)), some (.d k3 (.int (s : Nat))), some (.d k4 (.tuple [keyD a n, keyD b m])), some (.d kk (Kd.data .own)), some (.d true (.tuple ((rowN .own s n).map fun x => PyData.int (x : Nat)))), none, none, none, none, none, some (.d k4 (.str a)), some (.d k4 (.int (n : Nat)))]) rfl ?_
          refine .inr ⟨s, rfl, s1, by omega, ?_⟩
          refine Mark.at (ρ' := [some (.scr ns), some .st, some (.d false (.int z)), some (.d k3 (.int (s : Nat))), some (.d k4 (.tuple [keyD a n, keyD b m])), some (.d kk (Kd.data .own)), some (.d true (.tuple ((rowN .own s n).map fun x => PyData.int (x : Nat)))), some (.d false (shortD s)), none, none, none, none, some (.d k4 (.str a)), some (.d k4 (.int (n : Nat)))]) rfl ?_
          refine ⟨kd_shaped2 .own, ?_⟩
          refine if_f (b := decide (((((rowN .own s n).map fun x => PyData.int (x : Nat)).length : Nat) : Int) < (s : Nat))) (decide_eq_false (by rw [List.length_map]; omega)) ?_
          refine Mark.at (ρ' := [some (.scr ns), some .st, some (.d false (.int z)), some (.d k3 (.int (s : Nat))), some (.d k4 (.tuple [keyD a n, keyD b m])), some (.d kk (Kd.data .own)), some (.d true (.tuple ((rowN .own s n).map fun x => PyData.int (x : Nat)))), some (.d false (shortD s)), none, none, none, none, some (.d k4 (.str a)), some (.d k4 (.int (n : Nat)))]) rfl ?_
          refine ⟨s, n, .own, rfl, s1, s2, rfl, ok, rfl, hn, fun k8 => ?_⟩
          refine Mark.at (ρ' := [some (.scr ns), some .st, some (.d false (.int z)), some (.d k3 (.int (s : Nat))), some (.d k4 (.tuple [keyD a n, keyD b m])), some (.d kk (Kd.data .own)), some (.d true (.tuple ((rowN .own s n).map fun x => PyData.int (x : Nat)))), some (.d false (shortD s)), some (.d k8 (.int (leastN .own s n : Nat))), none, none, none, some (.d k4 (.str a)), some (.d k4 (.int (n : Nat)))]) rfl ?_
          refine if_f (b := decide (((leastN .own s n : Nat) : Int) > (n : Nat))) (decide_eq_false (by omega)) ?_
          refine ⟨s, leastN .own s n, .own, "any", rfl, s1, by omega, rfl, ok, rfl, by decide, by omega, ?_⟩
          refine ⟨eqOk_cells _ _, ?_⟩
          refine if_f (b := !(PyData.eqv (.tuple ((rowN .own s (leastN .own s n)).map fun x => PyData.int (x : Nat))) (.tuple ((rowN .own s n).map fun x => PyData.int (x : Nat))))) (by rw [eqv_cells, decide_eq_true (least_row .own n s1)]; rfl) ?_
          refine ⟨s, .own, rfl, s1, by omega, rfl, ok, fun k9 => ?_⟩
          refine if_f (b := decide (((leastN .own s n : Nat) : Int) ≥ (unN .own s : Nat))) (decide_eq_false (by omega)) ?_
          refine Mark.at (ρ' := [some (.scr ns), some .st, some (.d false (.int z)), some (.d k3 (.int (s : Nat))), some (.d k4 (.tuple [keyD a n, keyD b m])), some (.d kk (Kd.data .own)), some (.d true (.tuple ((rowN .own s n).map fun x => PyData.int (x : Nat)))), some (.d false (shortD s)), some (.d k8 (.int (leastN .own s n : Nat))), none, none, none, some (.d k4 (.str a)), some (.d k4 (.int (n : Nat)))]) rfl ?_
          refine ⟨s, n, .own, rfl, s1, s2, rfl, ok, rfl, hn, rfl, ?_⟩
          refine Mark.at (ρ' := [some (.scr ns), some .st, some (.d false (.int z)), some (.d k3 (.int (s : Nat))), some (.d k4 (.tuple [keyD a n, keyD b m])), some (.d kk (Kd.data .own)), some (.d true (.tuple ((rowN .own s n).map fun x => PyData.int (x : Nat)))), some (.d false (shortD s)), some (.d k8 (.int (leastN .own s n : Nat))), none, none, none, some (.d k4 (.str a)), some (.d k4 (.int (n : Nat)))]) rfl ?_
          refine ⟨_, at1 _ _ _, ?_⟩
          refine ⟨s, m, .own, b, rfl, s1, by omega, rfl, ok, rfl, hb, hm, ?_⟩
          refine Mark.at (ρ' := [some (.scr ns), some .st, some (.d false (.int z)), some (.d k3 (.int (s : Nat))), some (.d k4 (.tuple [keyD a n, keyD b m])), some (.d kk (Kd.data .own)), some (.d true (.tuple ((rowN .own s n).map fun x => PyData.int (x : Nat)))), some (.d false (shortD s)), some (.d k8 (.int (leastN .own s n : Nat))), some (.own true (.tuple ((rowN .own s m).map fun x => PyData.int (x : Nat)))), none, none, some (.d k4 (.str a)), some (.d k4 (.int (n : Nat)))]) rfl ?_
          refine ⟨_, at0 _ _, ?_⟩
          refine ⟨_, at1 _ _ _, ?_⟩
          refine ⟨s, n, m, .own, a, b, rfl, s1, by omega, rfl, ok, rfl, ha, hn, rfl, hb, hm, ?_⟩
          refine Mark.at (ρ' := [some (.scr ns), some .st, some (.d false (.int z)), some (.d k3 (.int (s : Nat))), some (.d k4 (.tuple [keyD a n, keyD b m])), some (.d kk (Kd.data .own)), some (.d true (.tuple ((rowN .own s n).map fun x => PyData.int (x : Nat)))), some (.d false (shortD s)), some (.d k8 (.int (leastN .own s n : Nat))), some (.own true (.tuple ((rowN .own s m).map fun x => PyData.int (x : Nat)))), some (.d false (.int (tog (rowN .own s n) (rowN .own s m) : Nat))), none, some (.d k4 (.str a)), some (.d k4 (.int (n : Nat)))]) rfl ?_
          refine ⟨eqOk_cells _ _, ?_⟩
          by_cases eq : rowN .own s n = rowN .own s m
          · refine if_t (b := PyData.eqv (.tuple ((rowN .own s n).map fun x => PyData.int (x : Nat))) (.tuple ((rowN .own s m).map fun x => PyData.int (x : Nat)))) (by rw [eqv_cells]; exact decide_eq_true eq) ?_
            have tt : tog (rowN .own s n) (rowN .own s m) = (rowN .own s n).length := by rw [← eq]; exact tog_self _
            refine Mark.at (ρ' := [some (.scr ns), some .st, some (.d false (.int z)), some (.d k3 (.int (s : Nat))), some (.d k4 (.tuple [keyD a n, keyD b m])), some (.d kk (Kd.data .own)), some (.d true (.tuple ((rowN .own s n).map fun x => PyData.int (x : Nat)))), some (.d false (shortD s)), some (.d k8 (.int (leastN .own s n : Nat))), some (.d true (.tuple ((rowN .own s m).map fun x => PyData.int (x : Nat)))), some (.d false (.int (tog (rowN .own s n) (rowN .own s m) : Nat))), some (.d false (.int ((rowN .own s n).length : Nat))), some (.d k4 (.str a)), some (.d k4 (.int (n : Nat)))]) (by rw [← List.length_map (f := fun x : Nat => PyData.int (x : Nat))]; rfl) ?_
            refine ⟨rfl, ?_⟩
            refine if_f (b := !(PyData.eqv (.int (tog (rowN .own s n) (rowN .own s m) : Nat)) (.int ((rowN .own s n).length : Nat)))) (by rw [tt, eqv_int]; rfl) ?_
            refine ⟨_, at1 _ _ _, ?_⟩
            refine ⟨_, at0 _ _, ?_⟩
            refine ⟨s, m, n, .own, b, a, rfl, s1, by omega, rfl, ok, rfl, hb, hm, rfl, ha, hn, ?_⟩
            refine ⟨rfl, ?_⟩
            refine if_f (b := !(PyData.eqv (.int (tog (rowN .own s m) (rowN .own s n) : Nat)) (.int ((rowN .own s n).length : Nat)))) (by rw [tog_comm, tt, eqv_int]; rfl) ?_
            refine ⟨rfl, ?_⟩
            by_cases one : ((rowN .own s n).length : Nat) = 1
            · refine if_t (b := PyData.eqv (.int ((rowN .own s n).length : Nat)) (.int 1)) (by rw [show (1 : Int) = ((1 : Nat) : Int) from rfl, len_is]; exact decide_eq_true one) ?_
              refine ⟨kd_shaped2 .own, ?_⟩
              exact done _ _ _ _ _ _ _ _ _ _ _
            · refine if_f (b := PyData.eqv (.int ((rowN .own s n).length : Nat)) (.int 1)) (by rw [show (1 : Int) = ((1 : Nat) : Int) from rfl, len_is]; exact decide_eq_false one) ?_
              exact done _ _ _ _ _ _ _ _ _ _ _
          · refine if_f (b := PyData.eqv (.tuple ((rowN .own s n).map fun x => PyData.int (x : Nat))) (.tuple ((rowN .own s m).map fun x => PyData.int (x : Nat)))) (by rw [eqv_cells]; exact decide_eq_false eq) ?_
            obtain ⟨tt, ow⟩ := tog_due s1 eq
            refine ⟨_, at_head .own n s1, _, at_head .own m s1, rfl, ?_⟩
            refine Mark.at (ρ' := [some (.scr ns), some .st, some (.d false (.int z)), some (.d k3 (.int (s : Nat))), some (.d k4 (.tuple [keyD a n, keyD b m])), some (.d kk (Kd.data .own)), some (.d true (.tuple ((rowN .own s n).map fun x => PyData.int (x : Nat)))), some (.d false (shortD s)), some (.d k8 (.int (leastN .own s n : Nat))), some (.d true (.tuple ((rowN .own s m).map fun x => PyData.int (x : Nat)))), some (.d false (.int (tog (rowN .own s n) (rowN .own s m) : Nat))), some (.d false (.int ((if n % s = m % s then 1 else 0 : Nat) : Nat))), some (.d k4 (.str a)), some (.d k4 (.int (n : Nat)))]) (by rw [← due_int (PyData.eqv (.int (n % s : Nat)) (.int (m % s : Nat))) (n % s) (m % s) (len_is _ _)]; rfl) ?_
            refine ⟨rfl, ?_⟩
            refine if_f (b := !(PyData.eqv (.int (tog (rowN .own s n) (rowN .own s m) : Nat)) (.int ((if n % s = m % s then 1 else 0 : Nat) : Nat)))) (by rw [tt, eqv_int]; rfl) ?_
            refine ⟨_, at1 _ _ _, ?_⟩
            refine ⟨_, at0 _ _, ?_⟩
            refine ⟨s, m, n, .own, b, a, rfl, s1, by omega, rfl, ok, rfl, hb, hm, rfl, ha, hn, ?_⟩
            refine ⟨rfl, ?_⟩
            refine if_f (b := !(PyData.eqv (.int (tog (rowN .own s m) (rowN .own s n) : Nat)) (.int ((if n % s = m % s then 1 else 0 : Nat) : Nat)))) (by rw [tog_comm, tt, eqv_int]; rfl) ?_
            refine ⟨rfl, ?_⟩
            by_cases one : ((if n % s = m % s then 1 else 0 : Nat) : Nat) = 1
            · refine if_t (b := PyData.eqv (.int ((if n % s = m % s then 1 else 0 : Nat) : Nat)) (.int 1)) (by rw [show (1 : Int) = ((1 : Nat) : Int) from rfl, len_is]; exact decide_eq_true one) ?_
              refine ⟨kd_shaped2 .own, ?_⟩
              exact done _ _ _ _ _ _ _ _ _ _ _
            · refine if_f (b := PyData.eqv (.int ((if n % s = m % s then 1 else 0 : Nat) : Nat)) (.int 1)) (by rw [show (1 : Int) = ((1 : Nat) : Int) from rfl, len_is]; exact decide_eq_false one) ?_
              exact done _ _ _ _ _ _ _ _ _ _ _
    · refine Mark.at (ρ' := [some (.scr ns), some .st, some (.d false (.int z)), some (.d k3 (.int (s : Nat))), some (.d k4 (.tuple [keyD a n, keyD b m])), some (.d kk (.tuple [.str "told", .dict kds])), none, none, none, none, none, none, none, none]) rfl ?_
      refine ⟨(_ : D), rfl, ?_⟩
      refine ⟨rfl, ?_⟩
      refine Mark.at (ρ' := [some (.scr ns), some .st, some (.d false (.int z)), some (.d k3 (.int (s : Nat))), some (.d k4 (.tuple [keyD a n, keyD b m])), some (.d kk (.tuple [.str "told", .dict kds])), none, none, none, none, none, none, none, none]) rfl ?_
      have ok : Kd.own.ok := trivial
      have lle := least_le .own s n
      have llt := least_lt .own n s1
      by_cases lt : (rowN .own s n).length < s
      · obtain ⟨x, ex, hxn⟩ := short_due s1 (show s ≤ 4096 by omega) lt
        have eD : shortD s = .int (x : Nat) := by unfold shortD; rw [ex]
        refine Mark.at (ρ' := [some (.scr ns), some .st, some (.d false (.int z)), some (.d k3 (.int (s : Nat))), some (.d k4 (.tuple [keyD a n, keyD b m])), some (.d false (Kd.data .own)), none, none, none, none, none, none, none, none]) rfl ?_
        refine ⟨_, at0 _ _, rfl, ?_⟩
        refine Mark.at (ρ' := [some (.scr ns), some .st, some (.d false (.int z)), some (.d k3 (.int (s : Nat))), some (.d k4 (.tuple [keyD a n, keyD b m])), some (.d false (Kd.data .own)), none, none, none, none, none, none, some (.d k4 (.str a)), some (.d k4 (.int (n : Nat)))]) rfl ?_
        refine ⟨_, at0 _ _, ?_⟩
        refine ⟨s, n, .own, a, rfl, s1, by omega, rfl, ok, rfl, ha, hn, ?_⟩
        refine Mark.at (ρ' := [some (.scr ns), some .st, some (.d false (.int z)), some (.d k3 (.int (s : Nat))), some (.d k4 (.tuple [keyD a n, keyD b m])), some (.d false (Kd.data .own)), some (.own true (.tuple ((rowN .own s n).map fun x => PyData.int (x : Nat)))), none, none, none, none, none, some (.d k4 (.str a)), some (.d k4 (.int (n : Nat)))]) rfl ?_
        refine ⟨_, at0 _ _, ?_⟩
        refine ⟨s, n, .own, a, rfl, s1, by omega, rfl, ok, rfl, ha, hn, fun k9 => ?_⟩
        refine ⟨show ((s : Nat) : Int) ≠ 0 by omega, rfl, ?_⟩
        refine if_f (b := !(PyData.eqv (.int (n % s : Nat)) (.int (((n : Nat) : Int).fmod ((s : Nat) : Int))))) (by rw [nat_fmod, eqv_int]; rfl) ?_
        refine ⟨_, at0 _ _, ?_⟩
        refine ⟨s, n, .own, a, rfl, s1, s2, rfl, ok, rfl, ha, hn, rfl, ?_⟩
        refine Mark.at (ρ' := [some (.scr ns), some .st, some (.d false (.int z)), some (.d k3 (.int (s : Nat))), some (.d k4 (.tuple [keyD a n, keyD b m])), some (.d false (Kd.data .own)), some (.d true (.tuple ((rowN .own s n).map fun x => PyData.int (x : Nat)))), none, none, none, none, none, some (.d k4 (.str a)), some (.d k4 (.int (n : Nat)))]) rfl ?_
        refine ⟨(_ : D), rfl, ?_⟩
        refine ⟨rfl, ?_⟩
        refine Mark.at (ρ' := [some (.scr ns), some .st, some (.d false (.int z)), some (.d k3 (.int (s : Nat))), some (.d k4 (.tuple [keyD a n, keyD b m])), some (.d false (Kd.data .own)), some (.d true (.tuple ((rowN .own s n).map fun x => PyData.int (x : Nat)))), none, none, none, none, none, some (.d k4 (.str a)), some (.d k4 (.int (n : Nat)))]) rfl ?_
        refine .inr ⟨s, rfl, s1, by omega, ?_⟩
        rw [eD]
        refine Mark.at (ρ' := [some (.scr ns), some .st, some (.d false (.int z)), some (.d k3 (.int (s : Nat))), some (.d k4 (.tuple [keyD a n, keyD b m])), some (.d false (Kd.data .own)), some (.d true (.tuple ((rowN .own s n).map fun x => PyData.int (x : Nat)))), some (.d false (.int (x : Nat))), none, none, none, none, some (.d k4 (.str a)), some (.d k4 (.int (n : Nat)))]) rfl ?_
        refine ⟨kd_shaped2 .own, ?_⟩
        refine if_t (b := decide (((((rowN .own s n).map fun x => PyData.int (x : Nat)).length : Nat) : Int) < (s : Nat))) (decide_eq_true (by rw [List.length_map]; omega)) ?_
        refine if_f (b := decide (((n : Nat) : Int) < (x : Nat))) (decide_eq_false (by omega)) ?_
        refine Mark.at (ρ' := [some (.scr ns), some .st, some (.d false (.int z)), some (.d k3 (.int (s : Nat))), some (.d k4 (.tuple [keyD a n, keyD b m])), some (.d false (Kd.data .own)), some (.d true (.tuple ((rowN .own s n).map fun x => PyData.int (x : Nat)))), some (.d false (.int (x : Nat))), none, none, none, none, some (.d k4 (.str a)), some (.d k4 (.int (n : Nat)))]) rfl ?_
        refine ⟨s, n, .own, rfl, s1, s2, rfl, ok, rfl, hn, fun k8 => ?_⟩
        refine Mark.at (ρ' := [some (.scr ns), some .st, some (.d false (.int z)), some (.d k3 (.int (s : Nat))), some (.d k4 (.tuple [keyD a n, keyD b m])), some (.d false (Kd.data .own)), some (.d true (.tuple ((rowN .own s n).map fun x => PyData.int (x : Nat)))), some (.d false (.int (x : Nat))), some (.d k8 (.int (leastN .own s n : Nat))), none, none, none, some (.d k4 (.str a)), some (.d k4 (.int (n : Nat)))]) rfl ?_
        refine if_f (b := decide (((leastN .own s n : Nat) : Int) > (n : Nat))) (decide_eq_false (by omega)) ?_
        refine ⟨s, leastN .own s n, .own, "any", rfl, s1, by omega, rfl, ok, rfl, by decide, by omega, ?_⟩
        refine ⟨eqOk_cells _ _, ?_⟩
        refine if_f (b := !(PyData.eqv (.tuple ((rowN .own s (leastN .own s n)).map fun x => PyData.int (x : Nat))) (.tuple ((rowN .own s n).map fun x => PyData.int (x : Nat))))) (by rw [eqv_cells, decide_eq_true (least_row .own n s1)]; rfl) ?_
        refine ⟨s, .own, rfl, s1, by omega, rfl, ok, fun k9 => ?_⟩
        refine if_f (b := decide (((leastN .own s n : Nat) : Int) ≥ (unN .own s : Nat))) (decide_eq_false (by omega)) ?_
        refine Mark.at (ρ' := [some (.scr ns), some .st, some (.d false (.int z)), some (.d k3 (.int (s : Nat))), some (.d k4 (.tuple [keyD a n, keyD b m])), some (.d false (Kd.data .own)), some (.d true (.tuple ((rowN .own s n).map fun x => PyData.int (x : Nat)))), some (.d false (.int (x : Nat))), some (.d k8 (.int (leastN .own s n : Nat))), none, none, none, some (.d k4 (.str a)), some (.d k4 (.int (n : Nat)))]) rfl ?_
        refine ⟨s, n, .own, rfl, s1, s2, rfl, ok, rfl, hn, rfl, ?_⟩
        refine Mark.at (ρ' := [some (.scr ns), some .st, some (.d false (.int z)), some (.d k3 (.int (s : Nat))), some (.d k4 (.tuple [keyD a n, keyD b m])), some (.d false (Kd.data .own)), some (.d true (.tuple ((rowN .own s n).map fun x => PyData.int (x : Nat)))), some (.d false (.int (x : Nat))), some (.d k8 (.int (leastN .own s n : Nat))), none, none, none, some (.d k4 (.str a)), some (.d k4 (.int (n : Nat)))]) rfl ?_
        refine ⟨_, at1 _ _ _, ?_⟩
        refine ⟨s, m, .own, b, rfl, s1, by omega, rfl, ok, rfl, hb, hm, ?_⟩
        refine Mark.at (ρ' := [some (.scr ns), some .st, some (.d false (.int z)), some (.d k3 (.int (s : Nat))), some (.d k4 (.tuple [keyD a n, keyD b m])), some (.d false (Kd.data .own)), some (.d true (.tuple ((rowN .own s n).map fun x => PyData.int (x : Nat)))), some (.d false (.int (x : Nat))), some (.d k8 (.int (leastN .own s n : Nat))), some (.own true (.tuple ((rowN .own s m).map fun x => PyData.int (x : Nat)))), none, none, some (.d k4 (.str a)), some (.d k4 (.int (n : Nat)))]) rfl ?_
        refine ⟨_, at0 _ _, ?_⟩
        refine ⟨_, at1 _ _ _, ?_⟩
        refine ⟨s, n, m, .own, a, b, rfl, s1, by omega, rfl, ok, rfl, ha, hn, rfl, hb, hm, ?_⟩
        refine Mark.at (ρ' := [some (.scr ns), some .st, some (.d false (.int z)), some (.d k3 (.int (s : Nat))), some (.d k4 (.tuple [keyD a n, keyD b m])), some (.d false (Kd.data .own)), some (.d true (.tuple ((rowN .own s n).map fun x => PyData.int (x : Nat)))), some (.d false (.int (x : Nat))), some (.d k8 (.int (leastN .own s n : Nat))), some (.own true (.tuple ((rowN .own s m).map fun x => PyData.int (x : Nat)))), some (.d false (.int (tog (rowN .own s n) (rowN .own s m) : Nat))), none, some (.d k4 (.str a)), some (.d k4 (.int (n : Nat)))]) rfl ?_
        refine ⟨eqOk_cells _ _, ?_⟩
        by_cases eq : rowN .own s n = rowN .own s m
        · refine if_t (b := PyData.eqv (.tuple ((rowN .own s n).map fun x => PyData.int (x : Nat))) (.tuple ((rowN .own s m).map fun x => PyData.int (x : Nat)))) (by rw [eqv_cells]; exact decide_eq_true eq) ?_
          have tt : tog (rowN .own s n) (rowN .own s m) = (rowN .own s n).length := by rw [← eq]; exact tog_self _
          refine Mark.at (ρ' := [some (.scr ns), some .st, some (.d false (.int z)), some (.d k3 (.int (s : Nat))), some (.d k4 (.tuple [keyD a n, keyD b m])), some (.d false (Kd.data .own)), some (.d true (.tuple ((rowN .own s n).map fun x => PyData.int (x : Nat)))), some (.d false (.int (x : Nat))), some (.d k8 (.int (leastN .own s n : Nat))), some (.d true (.tuple ((rowN .own s m).map fun x => PyData.int (x : Nat)))), some (.d false (.int (tog (rowN .own s n) (rowN .own s m) : Nat))), some (.d false (.int ((rowN .own s n).length : Nat))), some (.d k4 (.str a)), some (.d k4 (.int (n : Nat)))]) (by rw [← List.length_map (f := fun x : Nat => PyData.int (x : Nat))]; rfl) ?_
          refine ⟨rfl, ?_⟩
          refine if_f (b := !(PyData.eqv (.int (tog (rowN .own s n) (rowN .own s m) : Nat)) (.int ((rowN .own s n).length : Nat)))) (by rw [tt, eqv_int]; rfl) ?_
          refine ⟨_, at1 _ _ _, ?_⟩
          refine ⟨_, at0 _ _, ?_⟩
          refine ⟨s, m, n, .own, b, a, rfl, s1, by omega, rfl, ok, rfl, hb, hm, rfl, ha, hn, ?_⟩
          refine ⟨rfl, ?_⟩
          refine if_f (b := !(PyData.eqv (.int (tog (rowN .own s m) (rowN .own s n) : Nat)) (.int ((rowN .own s n).length : Nat)))) (by rw [tog_comm, tt, eqv_int]; rfl) ?_
          refine ⟨rfl, ?_⟩
          by_cases one : ((rowN .own s n).length : Nat) = 1
          · refine if_t (b := PyData.eqv (.int ((rowN .own s n).length : Nat)) (.int 1)) (by rw [show (1 : Int) = ((1 : Nat) : Int) from rfl, len_is]; exact decide_eq_true one) ?_
            refine ⟨kd_shaped2 .own, ?_⟩
            exact done _ _ _ _ _ _ _ _ _ _ _
          · refine if_f (b := PyData.eqv (.int ((rowN .own s n).length : Nat)) (.int 1)) (by rw [show (1 : Int) = ((1 : Nat) : Int) from rfl, len_is]; exact decide_eq_false one) ?_
            exact done _ _ _ _ _ _ _ _ _ _ _
        · refine if_f (b := PyData.eqv (.tuple ((rowN .own s n).map fun x => PyData.int (x : Nat))) (.tuple ((rowN .own s m).map fun x => PyData.int (x : Nat)))) (by rw [eqv_cells]; exact decide_eq_false eq) ?_
          obtain ⟨tt, ow⟩ := tog_due s1 eq
          refine ⟨_, at_head .own n s1, _, at_head .own m s1, rfl, ?_⟩
          refine Mark.at (ρ' := [some (.scr ns), some .st, some (.d false (.int z)), some (.d k3 (.int (s : Nat))), some (.d k4 (.tuple [keyD a n, keyD b m])), some (.d false (Kd.data .own)), some (.d true (.tuple ((rowN .own s n).map fun x => PyData.int (x : Nat)))), some (.d false (.int (x : Nat))), some (.d k8 (.int (leastN .own s n : Nat))), some (.d true (.tuple ((rowN .own s m).map fun x => PyData.int (x : Nat)))), some (.d false (.int (tog (rowN .own s n) (rowN .own s m) : Nat))), some (.d false (.int ((if n % s = m % s then 1 else 0 : Nat) : Nat))), some (.d k4 (.str a)), some (.d k4 (.int (n : Nat)))]) (by rw [← due_int (PyData.eqv (.int (n % s : Nat)) (.int (m % s : Nat))) (n % s) (m % s) (len_is _ _)]; rfl) ?_
          refine ⟨rfl, ?_⟩
          refine if_f (b := !(PyData.eqv (.int (tog (rowN .own s n) (rowN .own s m) : Nat)) (.int ((if n % s = m % s then 1 else 0 : Nat) : Nat)))) (by rw [tt, eqv_int]; rfl) ?_
          refine ⟨_, at1 _ _ _, ?_⟩
          refine ⟨_, at0 _ _, ?_⟩
          refine ⟨s, m, n, .own, b, a, rfl, s1, by omega, rfl, ok, rfl, hb, hm, rfl, ha, hn, ?_⟩
          refine ⟨rfl, ?_⟩
          refine if_f (b := !(PyData.eqv (.int (tog (rowN .own s m) (rowN .own s n) : Nat)) (.int ((if n % s = m % s then 1 else 0 : Nat) : Nat)))) (by rw [tog_comm, tt, eqv_int]; rfl) ?_
          refine ⟨rfl, ?_⟩
          by_cases one : ((if n % s = m % s then 1 else 0 : Nat) : Nat) = 1
          · refine if_t (b := PyData.eqv (.int ((if n % s = m % s then 1 else 0 : Nat) : Nat)) (.int 1)) (by rw [show (1 : Int) = ((1 : Nat) : Int) from rfl, len_is]; exact decide_eq_true one) ?_
            refine ⟨kd_shaped2 .own, ?_⟩
            exact done _ _ _ _ _ _ _ _ _ _ _
          · refine if_f (b := PyData.eqv (.int ((if n % s = m % s then 1 else 0 : Nat) : Nat)) (.int 1)) (by rw [show (1 : Int) = ((1 : Nat) : Int) from rfl, len_is]; exact decide_eq_false one) ?_
            exact done _ _ _ _ _ _ _ _ _ _ _
      · refine Mark.at (ρ' := [some (.scr ns), some .st, some (.d false (.int z)), some (.d k3 (.int (s : Nat))), some (.d k4 (.tuple [keyD a n, keyD b m])), some (.d false (Kd.data .own)), none, none, none, none, none, none, none, none]) rfl ?_
        refine ⟨_, at0 _ _, rfl, ?_⟩
        refine Mark.at (ρ' := [some (.scr ns), some .st, some (.d false (.int z)), some (.d k3 (.int (s : Nat))), some (.d k4 (.tuple [keyD a n, keyD b m])), some (.d false (Kd.data .own)), none, none, none, none, none, none, some (.d k4 (.str a)), some (.d k4 (.int (n : Nat)))]) rfl ?_
        refine ⟨_, at0 _ _, ?_⟩
        refine ⟨s, n, .own, a, rfl, s1, by omega, rfl, ok, rfl, ha, hn, ?_⟩
        refine Mark.at (ρ' := [some (.scr ns), some .st, some (.d false (.int z)), some (.d k3 (.int (s : Nat))), some (.d k4 (.tuple [keyD a n, keyD b m])), some (.d false (Kd.data .own)), some (.own true (.tuple ((rowN .own s n).map fun x => PyData.int (x : Nat)))), none, none, none, none, none, some (.d k4 (.str a)), some (.d k4 (.int (n : Nat)))]) rfl ?_
        refine ⟨_, at0 _ _, ?_⟩
        refine ⟨s, n, .own, a, rfl, s1, by omega, rfl, ok, rfl, ha, hn, fun k9 => ?_⟩
        refine ⟨show ((s : Nat) : Int) ≠ 0 by omega, rfl, ?_⟩
        refine if_f (b := !(PyData.eqv (.int (n % s : Nat)) (.int (((n : Nat) : Int).fmod ((s : Nat) : Int))))) (by rw [nat_fmod, eqv_int]; rfl) ?_
        refine ⟨_, at0 _ _, ?_⟩
        refine ⟨s, n, .own, a, rfl, s1, s2, rfl, ok, rfl, ha, hn, rfl, ?_⟩
        refine Mark.at (ρ' := [some (.scr ns), some .st, some (.d false (.int z)), some (.d k3 (.int (s : Nat))), some (.d k4 (.tuple [keyD a n, keyD b m])), some (.d false (Kd.data .own)), some (.d true (.tuple ((rowN .own s n).map fun x => PyData.int (x : Nat)))), none, none, none, none, none, some (.d k4 (.str a)), some (.d k4 (.int (n : Nat)))]) rfl ?_
        refine ⟨(_ : D), rfl, ?_⟩
        refine ⟨rfl, ?_⟩
        refine Mark.at (ρ' := [some (.scr ns), some .st, some (.d false (.int z)), some (.d k3 (.int (s : Nat))), some (.d k4 (.tuple [keyD a n, keyD b m])), some (.d false (Kd.data .own)), some (.d true (.tuple ((rowN .own s n).map fun x => PyData.int (x : Nat)))), none, none, none, none, none, some (.d k4 (.str a)), some (.d k4 (.int (n : Nat)))]) rfl ?_
        refine .inr ⟨s, rfl, s1, by omega, ?_⟩
        refine Mark.at (ρ' := [some (.scr ns), some .st, some (.d false (.int z)), some (.d k3 (.int (s : Nat))), some (.d k4 (.tuple [keyD a n, keyD b m])), some (.d false (Kd.data .own)), some (.d true (.tuple ((rowN .own s n).map fun x => PyData.int (x : Nat)))), some (.d false (shortD s)), none, none, none, none, some (.d k4 (.str a)), some (.d k4 (.int (n : Nat)))]) rfl ?_
        refine ⟨kd_shaped2 .own, ?_⟩
        refine if_f (b := decide (((((rowN .own s n).map fun x => PyData.int (x : Nat)).length : Nat) : Int) < (s : Nat))) (decide_eq_false (by rw [List.length_map]; omega)) ?_
        refine Mark.at (ρ' := [some (.scr ns), some .st, some (.d false (.int z)), some (.d k3 (.int (s : Nat))), some (.d k4 (.tuple [keyD a n, keyD b m])), some (.d false (Kd.data .own)), some (.d true (.tuple ((rowN .own s n).map fun x => PyData.int (x : Nat)))), some (.d false (shortD s)), none, none, none, none, some (.d k4 (.str a)), some (.d k4 (.int (n : Nat)))]) rfl ?_
        refine ⟨s, n, .own, rfl, s1, s2, rfl, ok, rfl, hn, fun k8 => ?_⟩
        refine Mark.at (ρ' := [some (.scr ns), some .st, some (.d false (.int z)), some (.d k3 (.int (s : Nat))), some (.d k4 (.tuple [keyD a n, keyD b m])), some (.d false (Kd.data .own)), some (.d true (.tuple ((rowN .own s n).map fun x => PyData.int (x : Nat)))), some (.d false (shortD s)), some (.d k8 (.int (leastN .own s n : Nat))), none, none, none, some (.d k4 (.str a)), some (.d k4 (.int (n : Nat)))]) rfl ?_
        refine if_f (b := decide (((leastN .own s n : Nat) : Int) > (n : Nat))) (decide_eq_false (by omega)) ?_
        refine ⟨s, leastN .own s n, .own, "any", rfl, s1, by omega, rfl, ok, rfl, by decide, by omega, ?_⟩
        refine ⟨eqOk_cells _ _, ?_⟩
        refine if_f (b := !(PyData.eqv (.tuple ((rowN .own s (leastN .own s n)).map fun x => PyData.int (x : Nat))) (.tuple ((rowN .own s n).map fun x => PyData.int (x : Nat))))) (by rw [eqv_cells, decide_eq_true (least_row .own n s1)]; rfl) ?_
        refine ⟨s, .own, rfl, s1, by omega, rfl, ok, fun k9 => ?_⟩
        refine if_f (b := decide (((leastN .own s n : Nat) : Int) ≥ (unN .own s : Nat))) (decide_eq_false (by omega)) ?_
        refine Mark.at (ρ' := [some (.scr ns), some .st, some (.d false (.int z)), some (.d k3 (.int (s : Nat))), some (.d k4 (.tuple [keyD a n, keyD b m])), some (.d false (Kd.data .own)), some (.d true (.tuple ((rowN .own s n).map fun x => PyData.int (x : Nat)))), some (.d false (shortD s)), some (.d k8 (.int (leastN .own s n : Nat))), none, none, none, some (.d k4 (.str a)), some (.d k4 (.int (n : Nat)))]) rfl ?_
        refine ⟨s, n, .own, rfl, s1, s2, rfl, ok, rfl, hn, rfl, ?_⟩
        refine Mark.at (ρ' := [some (.scr ns), some .st, some (.d false (.int z)), some (.d k3 (.int (s : Nat))), some (.d k4 (.tuple [keyD a n, keyD b m])), some (.d false (Kd.data .own)), some (.d true (.tuple ((rowN .own s n).map fun x => PyData.int (x : Nat)))), some (.d false (shortD s)), some (.d k8 (.int (leastN .own s n : Nat))), none, none, none, some (.d k4 (.str a)), some (.d k4 (.int (n : Nat)))]) rfl ?_
        refine ⟨_, at1 _ _ _, ?_⟩
        refine ⟨s, m, .own, b, rfl, s1, by omega, rfl, ok, rfl, hb, hm, ?_⟩
        refine Mark.at (ρ' := [some (.scr ns), some .st, some (.d false (.int z)), some (.d k3 (.int (s : Nat))), some (.d k4 (.tuple [keyD a n, keyD b m])), some (.d false (Kd.data .own)), some (.d true (.tuple ((rowN .own s n).map fun x => PyData.int (x : Nat)))), some (.d false (shortD s)), some (.d k8 (.int (leastN .own s n : Nat))), some (.own true (.tuple ((rowN .own s m).map fun x => PyData.int (x : Nat)))), none, none, some (.d k4 (.str a)), some (.d k4 (.int (n : Nat)))]) rfl ?_
        refine ⟨_, at0 _ _, ?_⟩
        refine ⟨_, at1 _ _ _, ?_⟩
        refine ⟨s, n, m, .own, a, b, rfl, s1, by omega, rfl, ok, rfl, ha, hn, rfl, hb, hm, ?_⟩
        refine Mark.at (ρ' := [some (.scr ns), some .st, some (.d false (.int z)), some (.d k3 (.int (s : Nat))), some (.d k4 (.tuple [keyD a n, keyD b m])), some (.d false (Kd.data .own)), some (.d true (.tuple ((rowN .own s n).map fun x => PyData.int (x : Nat)))), some (.d false (shortD s)), some (.d k8 (.int (leastN .own s n : Nat))), some (.own true (.tuple ((rowN .own s m).map fun x => PyData.int (x : Nat)))), some (.d false (.int (tog (rowN .own s n) (rowN .own s m) : Nat))), none, some (.d k4 (.str a)), some (.d k4 (.int (n : Nat)))]) rfl ?_
        refine ⟨eqOk_cells _ _, ?_⟩
        by_cases eq : rowN .own s n = rowN .own s m
        · refine if_t (b := PyData.eqv (.tuple ((rowN .own s n).map fun x => PyData.int (x : Nat))) (.tuple ((rowN .own s m).map fun x => PyData.int (x : Nat)))) (by rw [eqv_cells]; exact decide_eq_true eq) ?_
          have tt : tog (rowN .own s n) (rowN .own s m) = (rowN .own s n).length := by rw [← eq]; exact tog_self _
          refine Mark.at (ρ' := [some (.scr ns), some .st, some (.d false (.int z)), some (.d k3 (.int (s : Nat))), some (.d k4 (.tuple [keyD a n, keyD b m])), some (.d false (Kd.data .own)), some (.d true (.tuple ((rowN .own s n).map fun x => PyData.int (x : Nat)))), some (.d false (shortD s)), some (.d k8 (.int (leastN .own s n : Nat))), some (.d true (.tuple ((rowN .own s m).map fun x => PyData.int (x : Nat)))), some (.d false (.int (tog (rowN .own s n) (rowN .own s m) : Nat))), some (.d false (.int ((rowN .own s n).length : Nat))), some (.d k4 (.str a)), some (.d k4 (.int (n : Nat)))]) (by rw [← List.length_map (f := fun x : Nat => PyData.int (x : Nat))]; rfl) ?_
          refine ⟨rfl, ?_⟩
          refine if_f (b := !(PyData.eqv (.int (tog (rowN .own s n) (rowN .own s m) : Nat)) (.int ((rowN .own s n).length : Nat)))) (by rw [tt, eqv_int]; rfl) ?_
          refine ⟨_, at1 _ _ _, ?_⟩
          refine ⟨_, at0 _ _, ?_⟩
          refine ⟨s, m, n, .own, b, a, rfl, s1, by omega, rfl, ok, rfl, hb, hm, rfl, ha, hn, ?_⟩
          refine ⟨rfl, ?_⟩
          refine if_f (b := !(PyData.eqv (.int (tog (rowN .own s m) (rowN .own s n) : Nat)) (.int ((rowN .own s n).length : Nat)))) (by rw [tog_comm, tt, eqv_int]; rfl) ?_
          refine ⟨rfl, ?_⟩
          by_cases one : ((rowN .own s n).length : Nat) = 1
          · refine if_t (b := PyData.eqv (.int ((rowN .own s n).length : Nat)) (.int 1)) (by rw [show (1 : Int) = ((1 : Nat) : Int) from rfl, len_is]; exact decide_eq_true one) ?_
            refine ⟨kd_shaped2 .own, ?_⟩
            exact done _ _ _ _ _ _ _ _ _ _ _
          · refine if_f (b := PyData.eqv (.int ((rowN .own s n).length : Nat)) (.int 1)) (by rw [show (1 : Int) = ((1 : Nat) : Int) from rfl, len_is]; exact decide_eq_false one) ?_
            exact done _ _ _ _ _ _ _ _ _ _ _
        · refine if_f (b := PyData.eqv (.tuple ((rowN .own s n).map fun x => PyData.int (x : Nat))) (.tuple ((rowN .own s m).map fun x => PyData.int (x : Nat)))) (by rw [eqv_cells]; exact decide_eq_false eq) ?_
          obtain ⟨tt, ow⟩ := tog_due s1 eq
          refine ⟨_, at_head .own n s1, _, at_head .own m s1, rfl, ?_⟩
          refine Mark.at (ρ' := [some (.scr ns), some .st, some (.d false (.int z)), some (.d k3 (.int (s : Nat))), some (.d k4 (.tuple [keyD a n, keyD b m])), some (.d false (Kd.data .own)), some (.d true (.tuple ((rowN .own s n).map fun x => PyData.int (x : Nat)))), some (.d false (shortD s)), some (.d k8 (.int (leastN .own s n : Nat))), some (.d true (.tuple ((rowN .own s m).map fun x => PyData.int (x : Nat)))), some (.d false (.int (tog (rowN .own s n) (rowN .own s m) : Nat))), some (.d false (.int ((if n % s = m % s then 1 else 0 : Nat) : Nat))), some (.d k4 (.str a)), some (.d k4 (.int (n : Nat)))]) (by rw [← due_int (PyData.eqv (.int (n % s : Nat)) (.int (m % s : Nat))) (n % s) (m % s) (len_is _ _)]; rfl) ?_
          refine ⟨rfl, ?_⟩
          refine if_f (b := !(PyData.eqv (.int (tog (rowN .own s n) (rowN .own s m) : Nat)) (.int ((if n % s = m % s then 1 else 0 : Nat) : Nat)))) (by rw [tt, eqv_int]; rfl) ?_
          refine ⟨_, at1 _ _ _, ?_⟩
          refine ⟨_, at0 _ _, ?_⟩
          refine ⟨s, m, n, .own, b, a, rfl, s1, by omega, rfl, ok, rfl, hb, hm, rfl, ha, hn, ?_⟩
          refine ⟨rfl, ?_⟩
          refine if_f (b := !(PyData.eqv (.int (tog (rowN .own s m) (rowN .own s n) : Nat)) (.int ((if n % s = m % s then 1 else 0 : Nat) : Nat)))) (by rw [tog_comm, tt, eqv_int]; rfl) ?_
          refine ⟨rfl, ?_⟩
          by_cases one : ((if n % s = m % s then 1 else 0 : Nat) : Nat) = 1
          · refine if_t (b := PyData.eqv (.int ((if n % s = m % s then 1 else 0 : Nat) : Nat)) (.int 1)) (by rw [show (1 : Int) = ((1 : Nat) : Int) from rfl, len_is]; exact decide_eq_true one) ?_
            refine ⟨kd_shaped2 .own, ?_⟩
            exact done _ _ _ _ _ _ _ _ _ _ _
          · refine if_f (b := PyData.eqv (.int ((if n % s = m % s then 1 else 0 : Nat) : Nat)) (.int 1)) (by rw [show (1 : Int) = ((1 : Nat) : Int) from rfl, len_is]; exact decide_eq_false one) ?_
            exact done _ _ _ _ _ _ _ _ _ _ _
  · rintro ρ ⟨a2, a3, a4, a5, a6, a7, a8, a9, a10, a11, a12, a13, _, rfl⟩
    exact Mark.at rfl ⟨_, rfl⟩
  · obtain ⟨j, _, rfl⟩ := List.mem_map.mp hs
    exact ⟨_, rfl⟩
end My
set_option Elab.async false
set_option linter.all false
set_option maxRecDepth 100000
set_option maxHeartbeats 2000000
namespace My
open PySem PySem.Spec PyProof.Rows L2 DL
theorem ft_mk {K : PySem.W.Frag} {h : Heap} {mg : Str → Option Value} {x : Str} {st : Stmt} {ps : List Str} {f : Addr} {oc kV doc pm cdv ct : Value} {od an : Option Addr} {osl : Array (Option Value)} (X : K.In h) (G : h.Ns mainGlobals mg) (a : PySem.W.nsIn K mainGlobals x = some (some (.ref f)))
    (l : K.lookup f = some ⟨oc, od, .func (PySem.W.fnOf x x (defArgs st) (defBody st) (defScope st) .none kV doc pm an cdv ct), osl⟩) (c : PySem.W.codeIn K cdv x = true) (k : PySem.W.keepIn K (.ref f) = true)
    (b : ∀ (kV doc pm : Value) (an : Option Addr) (cdv ct : Value) (us : List Value), us.length = ps.length → bindArgs (PySem.W.fnOf x x (defArgs st) (defBody st) (defScope st) .none kV doc pm an cdv ct) ⟨us, []⟩ = pure (ps.zip us)) : FT K mg x st ps :=
  ⟨f, _, fun_mk l c k, PySem.W.mg_of X G a, k, (fun_mk l c k).binds b⟩
theorem gi_mk {K : PySem.W.Frag} {h : Heap} {mg : Str → Option Value} {x : Str} {n : Int} {t : Tok} (X : K.In h) (G : h.Ns mainGlobals mg) (a : PySem.W.nsIn K mainGlobals x = some (some (.int n t))) : GlobD K mg x false (.int n) := ⟨.int n, .int n t, PySem.W.mg_of X G a, ⟨t, rfl⟩, fun _ => .int n⟩
theorem gs_mk {K : PySem.W.Frag} {h : Heap} {mg : Str → Option Value} {x : Str} {n : Str} {t : Tok} (X : K.In h) (G : h.Ns mainGlobals mg) (a : PySem.W.nsIn K mainGlobals x = some (some (.str n t))) : GlobD K mg x false (.str n) := ⟨.str n, .str n t, PySem.W.mg_of X G a, ⟨t, rfl⟩, fun _ => .str n⟩
theorem ext_mk {K : PySem.W.Frag} {h : Heap} {mg : Str → Option Value} {n : Str} {a : Addr} (X : K.In h) (G : h.Ns mainGlobals mg) (e : PySem.W.nsIn K mainGlobals n = some (some (.ref a))) (x : PySem.W.excIn K a [.type "ValueError", .type "Exception", .type "BaseException", .type "object"] "ValueError.__new__" = true) (k : PySem.W.keepIn K (.ref a) = true)
    (s : PySem.W.subIn K (.ref a) (.type "BaseException") = some true) (t : PySem.W.typeIn K (.ref a) = some (.type "type")) : ExT K mg n := ⟨a, PySem.W.mg_of X G e, x, k, s, t⟩
theorem fin {P : Program} {w : World} {K : PySem.W.Frag} {mg mb : Str → Option Value} {s1 : Shared} {a fa c : Addr} {fd : FuncData} {its : List Value} {ns : List Int} (T : Tx K mg) (F : Fun K "law" "law" s_law fa fd) (hb : Binds K fd ["script"] []) (hcode : fd.code = .ref c) (L : Left P w K mg mb s1 a [] its) (hi : IntsAre its ns) (hl : ns.length ≤ 63)
    (hbits : ∀ n ∈ ns, Builtin.Int.intBits n ≤ 1048576) (hb2 : ∀ (s : Shared) (u : Value), BindsTo s fd ⟨[u], []⟩ [("script", u)]) :
    codeAny (model P w) callerA (.call (.ref fa) ⟨[.ref a], []⟩) (fun r s' => r = .ok (.ret (.bool true)) ∧ OldK s1.heap s'.heap ∧ s'.os = s1.os ∧ AllBare s'.gens) s1 :=
  law_end (k := 8) (q := fun _ => (("law" : Str) ++ ".<locals>.") ++ "<lambda>") L hi (Nat.le_trans hl (by decide)) hbits ⟨rfl, by decide, by decide⟩ hb2 fun base _ _ tb => lawFn T F hcode
theorem tx_mk {K : PySem.W.Frag} {h : Heap} {mg : Str → Option Value} (X : K.In h) (G : h.Ns mainGlobals mg)
    {t_LETTERS : Tok}
    {t_MOST_LETTERS : Tok}
    {t_MOST_NUMBER : Tok}
    {t_MOST_SIZE : Tok}
    {t_MOST_STEP : Tok}
    {t_MOST_GREAT : Tok}
    {a_BadSize : Addr}
    {a_BadKey : Addr}
    {a_BadKind : Addr}
    {a_BadGreat : Addr}
    {a_BadCell : Addr}
    {a_BadRow : Addr}
    {f__law_mixed : Addr} {oc__law_mixed kV__law_mixed doc__law_mixed pm__law_mixed cdv__law_mixed ct__law_mixed : Value} {od__law_mixed an__law_mixed : Option Addr} {osl__law_mixed : Array (Option Value)}
    {f__law_draw : Addr} {oc__law_draw kV__law_draw doc__law_draw pm__law_draw cdv__law_draw ct__law_draw : Value} {od__law_draw an__law_draw : Option Addr} {osl__law_draw : Array (Option Value)}
    {f__law_pick : Addr} {oc__law_pick kV__law_pick doc__law_pick pm__law_pick cdv__law_pick ct__law_pick : Value} {od__law_pick an__law_pick : Option Addr} {osl__law_pick : Array (Option Value)}
    {f__law_shuffled : Addr} {oc__law_shuffled kV__law_shuffled doc__law_shuffled pm__law_shuffled cdv__law_shuffled ct__law_shuffled : Value} {od__law_shuffled an__law_shuffled : Option Addr} {osl__law_shuffled : Array (Option Value)}
    {f__law_wholes : Addr} {oc__law_wholes kV__law_wholes doc__law_wholes pm__law_wholes cdv__law_wholes ct__law_wholes : Value} {od__law_wholes an__law_wholes : Option Addr} {osl__law_wholes : Array (Option Value)}
    {f__law_size : Addr} {oc__law_size kV__law_size doc__law_size pm__law_size cdv__law_size ct__law_size : Value} {od__law_size an__law_size : Option Addr} {osl__law_size : Array (Option Value)}
    {f__law_number : Addr} {oc__law_number kV__law_number doc__law_number pm__law_number cdv__law_number ct__law_number : Value} {od__law_number an__law_number : Option Addr} {osl__law_number : Array (Option Value)}
    {f__law_names : Addr} {oc__law_names kV__law_names doc__law_names pm__law_names cdv__law_names ct__law_names : Value} {od__law_names an__law_names : Option Addr} {osl__law_names : Array (Option Value)}
    {f__law_lot : Addr} {oc__law_lot kV__law_lot doc__law_lot pm__law_lot cdv__law_lot ct__law_lot : Value} {od__law_lot an__law_lot : Option Addr} {osl__law_lot : Array (Option Value)}
    {f__law_told : Addr} {oc__law_told kV__law_told doc__law_told pm__law_told cdv__law_told ct__law_told : Value} {od__law_told an__law_told : Option Addr} {osl__law_told : Array (Option Value)}
    {f__law_kind : Addr} {oc__law_kind kV__law_kind doc__law_kind pm__law_kind cdv__law_kind ct__law_kind : Value} {od__law_kind an__law_kind : Option Addr} {osl__law_kind : Array (Option Value)}
    {f_is_whole : Addr} {oc_is_whole kV_is_whole doc_is_whole pm_is_whole cdv_is_whole ct_is_whole : Value} {od_is_whole an_is_whole : Option Addr} {osl_is_whole : Array (Option Value)}
    {f_is_name : Addr} {oc_is_name kV_is_name doc_is_name pm_is_name cdv_is_name ct_is_name : Value} {od_is_name an_is_name : Option Addr} {osl_is_name : Array (Option Value)}
    {f_is_key : Addr} {oc_is_key kV_is_key doc_is_key pm_is_key cdv_is_key ct_is_key : Value} {od_is_key an_is_key : Option Addr} {osl_is_key : Array (Option Value)}
    {f_need_size : Addr} {oc_need_size kV_need_size doc_need_size pm_need_size cdv_need_size ct_need_size : Value} {od_need_size an_need_size : Option Addr} {osl_need_size : Array (Option Value)}
    {f_need_key : Addr} {oc_need_key kV_need_key doc_need_key pm_need_key cdv_need_key ct_need_key : Value} {od_need_key an_need_key : Option Addr} {osl_need_key : Array (Option Value)}
    {f_need_cell : Addr} {oc_need_cell kV_need_cell doc_need_cell pm_need_cell cdv_need_cell ct_need_cell : Value} {od_need_cell an_need_cell : Option Addr} {osl_need_cell : Array (Option Value)}
    {f_is_cells : Addr} {oc_is_cells kV_is_cells doc_is_cells pm_is_cells cdv_is_cells ct_is_cells : Value} {od_is_cells an_is_cells : Option Addr} {osl_is_cells : Array (Option Value)}
    {f_is_plain_kind : Addr} {oc_is_plain_kind kV_is_plain_kind doc_is_plain_kind pm_is_plain_kind cdv_is_plain_kind ct_is_plain_kind : Value} {od_is_plain_kind an_is_plain_kind : Option Addr} {osl_is_plain_kind : Array (Option Value)}
    {f_is_kind_of : Addr} {oc_is_kind_of kV_is_kind_of doc_is_kind_of pm_is_kind_of cdv_is_kind_of ct_is_kind_of : Value} {od_is_kind_of an_is_kind_of : Option Addr} {osl_is_kind_of : Array (Option Value)}
    {f_need_kind : Addr} {oc_need_kind kV_need_kind doc_need_kind pm_need_kind cdv_need_kind ct_need_kind : Value} {od_need_kind an_need_kind : Option Addr} {osl_need_kind : Array (Option Value)}
    {f_step_of : Addr} {oc_step_of kV_step_of doc_step_of pm_step_of cdv_step_of ct_step_of : Value} {od_step_of an_step_of : Option Addr} {osl_step_of : Array (Option Value)}
    {f_cells_in_turn : Addr} {oc_cells_in_turn kV_cells_in_turn doc_cells_in_turn pm_cells_in_turn cdv_cells_in_turn ct_cells_in_turn : Value} {od_cells_in_turn an_cells_in_turn : Option Addr} {osl_cells_in_turn : Array (Option Value)}
    {f_row_at : Addr} {oc_row_at kV_row_at doc_row_at pm_row_at cdv_row_at ct_row_at : Value} {od_row_at an_row_at : Option Addr} {osl_row_at : Array (Option Value)}
    {f_has_row : Addr} {oc_has_row kV_has_row doc_has_row pm_has_row cdv_has_row ct_has_row : Value} {od_has_row an_has_row : Option Addr} {osl_has_row : Array (Option Value)}
    {f_need_rows : Addr} {oc_need_rows kV_need_rows doc_need_rows pm_need_rows cdv_need_rows ct_need_rows : Value} {od_need_rows an_need_rows : Option Addr} {osl_need_rows : Array (Option Value)}
    {f_need_row_of : Addr} {oc_need_row_of kV_need_row_of doc_need_row_of pm_need_row_of cdv_need_row_of ct_need_row_of : Value} {od_need_row_of an_need_row_of : Option Addr} {osl_need_row_of : Array (Option Value)}
    {f_row_of : Addr} {oc_row_of kV_row_of doc_row_of pm_row_of cdv_row_of ct_row_of : Value} {od_row_of an_row_of : Option Addr} {osl_row_of : Array (Option Value)}
    {f_home_of : Addr} {oc_home_of kV_home_of doc_home_of pm_home_of cdv_home_of ct_home_of : Value} {od_home_of an_home_of : Option Addr} {osl_home_of : Array (Option Value)}
    {f_place_in : Addr} {oc_place_in kV_place_in doc_place_in pm_place_in cdv_place_in ct_place_in : Value} {od_place_in an_place_in : Option Addr} {osl_place_in : Array (Option Value)}
    {f_together : Addr} {oc_together kV_together doc_together pm_together cdv_together ct_together : Value} {od_together an_together : Option Addr} {osl_together : Array (Option Value)}
    {f_need_great : Addr} {oc_need_great kV_need_great doc_need_great pm_need_great cdv_need_great ct_need_great : Value} {od_need_great an_need_great : Option Addr} {osl_need_great : Array (Option Value)}
    {f_powered : Addr} {oc_powered kV_powered doc_powered pm_powered cdv_powered ct_powered : Value} {od_powered an_powered : Option Addr} {osl_powered : Array (Option Value)}
    {f_prime_powers : Addr} {oc_prime_powers kV_prime_powers doc_prime_powers pm_prime_powers cdv_prime_powers ct_prime_powers : Value} {od_prime_powers an_prime_powers : Option Addr} {osl_prime_powers : Array (Option Value)}
    {f_divided : Addr} {oc_divided kV_divided doc_divided pm_divided cdv_divided ct_divided : Value} {od_divided an_divided : Option Addr} {osl_divided : Array (Option Value)}
    {f_squares : Addr} {oc_squares kV_squares doc_squares pm_squares cdv_squares ct_squares : Value} {od_squares an_squares : Option Addr} {osl_squares : Array (Option Value)}
    {f_met_by_power : Addr} {oc_met_by_power kV_met_by_power doc_met_by_power pm_met_by_power cdv_met_by_power ct_met_by_power : Value} {od_met_by_power an_met_by_power : Option Addr} {osl_met_by_power : Array (Option Value)}
    {f_cells_met : Addr} {oc_cells_met kV_cells_met doc_cells_met pm_cells_met cdv_cells_met ct_cells_met : Value} {od_cells_met an_cells_met : Option Addr} {osl_cells_met : Array (Option Value)}
    {f_meets_all : Addr} {oc_meets_all kV_meets_all doc_meets_all pm_meets_all cdv_meets_all ct_meets_all : Value} {od_meets_all an_meets_all : Option Addr} {osl_meets_all : Array (Option Value)}
    {f_first_short : Addr} {oc_first_short kV_first_short doc_first_short pm_first_short cdv_first_short ct_first_short : Value} {od_first_short an_first_short : Option Addr} {osl_first_short : Array (Option Value)}
    {f_unlike_rows : Addr} {oc_unlike_rows kV_unlike_rows doc_unlike_rows pm_unlike_rows cdv_unlike_rows ct_unlike_rows : Value} {od_unlike_rows an_unlike_rows : Option Addr} {osl_unlike_rows : Array (Option Value)}
    {f_number_with : Addr} {oc_number_with kV_number_with doc_number_with pm_number_with cdv_number_with ct_number_with : Value} {od_number_with an_number_with : Option Addr} {osl_number_with : Array (Option Value)}
    {f__law_turned : Addr} {oc__law_turned kV__law_turned doc__law_turned pm__law_turned cdv__law_turned ct__law_turned : Value} {od__law_turned an__law_turned : Option Addr} {osl__law_turned : Array (Option Value)}
    {f__law_beside : Addr} {oc__law_beside kV__law_beside doc__law_beside pm__law_beside cdv__law_beside ct__law_beside : Value} {od__law_beside an__law_beside : Option Addr} {osl__law_beside : Array (Option Value)}
    {f__law_begun : Addr} {oc__law_begun kV__law_begun doc__law_begun pm__law_begun cdv__law_begun ct__law_begun : Value} {od__law_begun an__law_begun : Option Addr} {osl__law_begun : Array (Option Value)}
    (z_len : PySem.W.nsIn K mainGlobals "len" = some none)
    (z_isinstance : PySem.W.nsIn K mainGlobals "isinstance" = some none)
    (z_int : PySem.W.nsIn K mainGlobals "int" = some none)
    (z_bool : PySem.W.nsIn K mainGlobals "bool" = some none)
    (z_tuple : PySem.W.nsIn K mainGlobals "tuple" = some none)
    (z_list : PySem.W.nsIn K mainGlobals "list" = some none)
    (z_range : PySem.W.nsIn K mainGlobals "range" = some none)
    (z_str : PySem.W.nsIn K mainGlobals "str" = some none)
    (z_dict : PySem.W.nsIn K mainGlobals "dict" = some none)
    (z_abs : PySem.W.nsIn K mainGlobals "abs" = some none)
    (z_min : PySem.W.nsIn K mainGlobals "min" = some none)
    (z_max : PySem.W.nsIn K mainGlobals "max" = some none)
    (z_all : PySem.W.nsIn K mainGlobals "all" = some none)
    (z_zip : PySem.W.nsIn K mainGlobals "zip" = some none)
    (z_set : PySem.W.nsIn K mainGlobals "set" = some none)
    (g_LETTERS : PySem.W.nsIn K mainGlobals "LETTERS" = some (some (.str "abcdefghijklmnopqrstuvwxyz" t_LETTERS)))
    (g_MOST_LETTERS : PySem.W.nsIn K mainGlobals "MOST_LETTERS" = some (some (.int 8 t_MOST_LETTERS)))
    (g_MOST_NUMBER : PySem.W.nsIn K mainGlobals "MOST_NUMBER" = some (some (.int 4294967295 t_MOST_NUMBER)))
    (g_MOST_SIZE : PySem.W.nsIn K mainGlobals "MOST_SIZE" = some (some (.int 4096 t_MOST_SIZE)))
    (g_MOST_STEP : PySem.W.nsIn K mainGlobals "MOST_STEP" = some (some (.int 4095 t_MOST_STEP)))
    (g_MOST_GREAT : PySem.W.nsIn K mainGlobals "MOST_GREAT" = some (some (.int 1000000000 t_MOST_GREAT)))
    (e1_BadSize : PySem.W.nsIn K mainGlobals "BadSize" = some (some (.ref a_BadSize)))
    (e2_BadSize : PySem.W.excIn K a_BadSize [.type "ValueError", .type "Exception", .type "BaseException", .type "object"] "ValueError.__new__" = true)
    (e3_BadSize : PySem.W.keepIn K (.ref a_BadSize) = true)
    (e4_BadSize : PySem.W.subIn K (.ref a_BadSize) (.type "BaseException") = some true)
    (e5_BadSize : PySem.W.typeIn K (.ref a_BadSize) = some (.type "type"))
    (e1_BadKey : PySem.W.nsIn K mainGlobals "BadKey" = some (some (.ref a_BadKey)))
    (e2_BadKey : PySem.W.excIn K a_BadKey [.type "ValueError", .type "Exception", .type "BaseException", .type "object"] "ValueError.__new__" = true)
    (e3_BadKey : PySem.W.keepIn K (.ref a_BadKey) = true)
    (e4_BadKey : PySem.W.subIn K (.ref a_BadKey) (.type "BaseException") = some true)
    (e5_BadKey : PySem.W.typeIn K (.ref a_BadKey) = some (.type "type"))
    (e1_BadKind : PySem.W.nsIn K mainGlobals "BadKind" = some (some (.ref a_BadKind)))
    (e2_BadKind : PySem.W.excIn K a_BadKind [.type "ValueError", .type "Exception", .type "BaseException", .type "object"] "ValueError.__new__" = true)
    (e3_BadKind : PySem.W.keepIn K (.ref a_BadKind) = true)
    (e4_BadKind : PySem.W.subIn K (.ref a_BadKind) (.type "BaseException") = some true)
    (e5_BadKind : PySem.W.typeIn K (.ref a_BadKind) = some (.type "type"))
    (e1_BadGreat : PySem.W.nsIn K mainGlobals "BadGreat" = some (some (.ref a_BadGreat)))
    (e2_BadGreat : PySem.W.excIn K a_BadGreat [.type "ValueError", .type "Exception", .type "BaseException", .type "object"] "ValueError.__new__" = true)
    (e3_BadGreat : PySem.W.keepIn K (.ref a_BadGreat) = true)
    (e4_BadGreat : PySem.W.subIn K (.ref a_BadGreat) (.type "BaseException") = some true)
    (e5_BadGreat : PySem.W.typeIn K (.ref a_BadGreat) = some (.type "type"))
    (e1_BadCell : PySem.W.nsIn K mainGlobals "BadCell" = some (some (.ref a_BadCell)))
    (e2_BadCell : PySem.W.excIn K a_BadCell [.type "ValueError", .type "Exception", .type "BaseException", .type "object"] "ValueError.__new__" = true)
    (e3_BadCell : PySem.W.keepIn K (.ref a_BadCell) = true)
    (e4_BadCell : PySem.W.subIn K (.ref a_BadCell) (.type "BaseException") = some true)
    (e5_BadCell : PySem.W.typeIn K (.ref a_BadCell) = some (.type "type"))
    (e1_BadRow : PySem.W.nsIn K mainGlobals "BadRow" = some (some (.ref a_BadRow)))
    (e2_BadRow : PySem.W.excIn K a_BadRow [.type "ValueError", .type "Exception", .type "BaseException", .type "object"] "ValueError.__new__" = true)
    (e3_BadRow : PySem.W.keepIn K (.ref a_BadRow) = true)
    (e4_BadRow : PySem.W.subIn K (.ref a_BadRow) (.type "BaseException") = some true)
    (e5_BadRow : PySem.W.typeIn K (.ref a_BadRow) = some (.type "type"))
    (a__law_mixed : PySem.W.nsIn K mainGlobals "_law_mixed" = some (some (.ref f__law_mixed)))
    (l__law_mixed : K.lookup f__law_mixed = some ⟨oc__law_mixed, od__law_mixed, .func (PySem.W.fnOf "_law_mixed" "_law_mixed" (defArgs (top 53)) (defBody (top 53)) (defScope (top 53)) .none kV__law_mixed doc__law_mixed pm__law_mixed an__law_mixed cdv__law_mixed ct__law_mixed), osl__law_mixed⟩)
    (c__law_mixed : PySem.W.codeIn K cdv__law_mixed "_law_mixed" = true)
    (k__law_mixed : PySem.W.keepIn K (.ref f__law_mixed) = true)
    (a__law_draw : PySem.W.nsIn K mainGlobals "_law_draw" = some (some (.ref f__law_draw)))
    (l__law_draw : K.lookup f__law_draw = some ⟨oc__law_draw, od__law_draw, .func (PySem.W.fnOf "_law_draw" "_law_draw" (defArgs (top 54)) (defBody (top 54)) (defScope (top 54)) .none kV__law_draw doc__law_draw pm__law_draw an__law_draw cdv__law_draw ct__law_draw), osl__law_draw⟩)
    (c__law_draw : PySem.W.codeIn K cdv__law_draw "_law_draw" = true)
    (k__law_draw : PySem.W.keepIn K (.ref f__law_draw) = true)
    (a__law_pick : PySem.W.nsIn K mainGlobals "_law_pick" = some (some (.ref f__law_pick)))
    (l__law_pick : K.lookup f__law_pick = some ⟨oc__law_pick, od__law_pick, .func (PySem.W.fnOf "_law_pick" "_law_pick" (defArgs (top 55)) (defBody (top 55)) (defScope (top 55)) .none kV__law_pick doc__law_pick pm__law_pick an__law_pick cdv__law_pick ct__law_pick), osl__law_pick⟩)
    (c__law_pick : PySem.W.codeIn K cdv__law_pick "_law_pick" = true)
    (k__law_pick : PySem.W.keepIn K (.ref f__law_pick) = true)
    (a__law_shuffled : PySem.W.nsIn K mainGlobals "_law_shuffled" = some (some (.ref f__law_shuffled)))
    (l__law_shuffled : K.lookup f__law_shuffled = some ⟨oc__law_shuffled, od__law_shuffled, .func (PySem.W.fnOf "_law_shuffled" "_law_shuffled" (defArgs (top 56)) (defBody (top 56)) (defScope (top 56)) .none kV__law_shuffled doc__law_shuffled pm__law_shuffled an__law_shuffled cdv__law_shuffled ct__law_shuffled), osl__law_shuffled⟩)
    (c__law_shuffled : PySem.W.codeIn K cdv__law_shuffled "_law_shuffled" = true)
    (k__law_shuffled : PySem.W.keepIn K (.ref f__law_shuffled) = true)
    (a__law_wholes : PySem.W.nsIn K mainGlobals "_law_wholes" = some (some (.ref f__law_wholes)))
    (l__law_wholes : K.lookup f__law_wholes = some ⟨oc__law_wholes, od__law_wholes, .func (PySem.W.fnOf "_law_wholes" "_law_wholes" (defArgs (top 57)) (defBody (top 57)) (defScope (top 57)) .none kV__law_wholes doc__law_wholes pm__law_wholes an__law_wholes cdv__law_wholes ct__law_wholes), osl__law_wholes⟩)
    (c__law_wholes : PySem.W.codeIn K cdv__law_wholes "_law_wholes" = true)
    (k__law_wholes : PySem.W.keepIn K (.ref f__law_wholes) = true)
    (a__law_size : PySem.W.nsIn K mainGlobals "_law_size" = some (some (.ref f__law_size)))
    (l__law_size : K.lookup f__law_size = some ⟨oc__law_size, od__law_size, .func (PySem.W.fnOf "_law_size" "_law_size" (defArgs (top 58)) (defBody (top 58)) (defScope (top 58)) .none kV__law_size doc__law_size pm__law_size an__law_size cdv__law_size ct__law_size), osl__law_size⟩)
    (c__law_size : PySem.W.codeIn K cdv__law_size "_law_size" = true)
    (k__law_size : PySem.W.keepIn K (.ref f__law_size) = true)
    (a__law_number : PySem.W.nsIn K mainGlobals "_law_number" = some (some (.ref f__law_number)))
    (l__law_number : K.lookup f__law_number = some ⟨oc__law_number, od__law_number, .func (PySem.W.fnOf "_law_number" "_law_number" (defArgs (top 59)) (defBody (top 59)) (defScope (top 59)) .none kV__law_number doc__law_number pm__law_number an__law_number cdv__law_number ct__law_number), osl__law_number⟩)
    (c__law_number : PySem.W.codeIn K cdv__law_number "_law_number" = true)
    (k__law_number : PySem.W.keepIn K (.ref f__law_number) = true)
    (a__law_names : PySem.W.nsIn K mainGlobals "_law_names" = some (some (.ref f__law_names)))
    (l__law_names : K.lookup f__law_names = some ⟨oc__law_names, od__law_names, .func (PySem.W.fnOf "_law_names" "_law_names" (defArgs (top 60)) (defBody (top 60)) (defScope (top 60)) .none kV__law_names doc__law_names pm__law_names an__law_names cdv__law_names ct__law_names), osl__law_names⟩)
    (c__law_names : PySem.W.codeIn K cdv__law_names "_law_names" = true)
    (k__law_names : PySem.W.keepIn K (.ref f__law_names) = true)
    (a__law_lot : PySem.W.nsIn K mainGlobals "_law_lot" = some (some (.ref f__law_lot)))
    (l__law_lot : K.lookup f__law_lot = some ⟨oc__law_lot, od__law_lot, .func (PySem.W.fnOf "_law_lot" "_law_lot" (defArgs (top 61)) (defBody (top 61)) (defScope (top 61)) .none kV__law_lot doc__law_lot pm__law_lot an__law_lot cdv__law_lot ct__law_lot), osl__law_lot⟩)
    (c__law_lot : PySem.W.codeIn K cdv__law_lot "_law_lot" = true)
    (k__law_lot : PySem.W.keepIn K (.ref f__law_lot) = true)
    (a__law_told : PySem.W.nsIn K mainGlobals "_law_told" = some (some (.ref f__law_told)))
    (l__law_told : K.lookup f__law_told = some ⟨oc__law_told, od__law_told, .func (PySem.W.fnOf "_law_told" "_law_told" (defArgs (top 62)) (defBody (top 62)) (defScope (top 62)) .none kV__law_told doc__law_told pm__law_told an__law_told cdv__law_told ct__law_told), osl__law_told⟩)
    (c__law_told : PySem.W.codeIn K cdv__law_told "_law_told" = true)
    (k__law_told : PySem.W.keepIn K (.ref f__law_told) = true)
    (a__law_kind : PySem.W.nsIn K mainGlobals "_law_kind" = some (some (.ref f__law_kind)))
    (l__law_kind : K.lookup f__law_kind = some ⟨oc__law_kind, od__law_kind, .func (PySem.W.fnOf "_law_kind" "_law_kind" (defArgs (top 63)) (defBody (top 63)) (defScope (top 63)) .none kV__law_kind doc__law_kind pm__law_kind an__law_kind cdv__law_kind ct__law_kind), osl__law_kind⟩)
    (c__law_kind : PySem.W.codeIn K cdv__law_kind "_law_kind" = true)
    (k__law_kind : PySem.W.keepIn K (.ref f__law_kind) = true)
    (a_is_whole : PySem.W.nsIn K mainGlobals "is_whole" = some (some (.ref f_is_whole)))
    (l_is_whole : K.lookup f_is_whole = some ⟨oc_is_whole, od_is_whole, .func (PySem.W.fnOf "is_whole" "is_whole" (defArgs (top 14)) (defBody (top 14)) (defScope (top 14)) .none kV_is_whole doc_is_whole pm_is_whole an_is_whole cdv_is_whole ct_is_whole), osl_is_whole⟩)
    (c_is_whole : PySem.W.codeIn K cdv_is_whole "is_whole" = true)
    (k_is_whole : PySem.W.keepIn K (.ref f_is_whole) = true)
    (a_is_name : PySem.W.nsIn K mainGlobals "is_name" = some (some (.ref f_is_name)))
    (l_is_name : K.lookup f_is_name = some ⟨oc_is_name, od_is_name, .func (PySem.W.fnOf "is_name" "is_name" (defArgs (top 15)) (defBody (top 15)) (defScope (top 15)) .none kV_is_name doc_is_name pm_is_name an_is_name cdv_is_name ct_is_name), osl_is_name⟩)
    (c_is_name : PySem.W.codeIn K cdv_is_name "is_name" = true)
    (k_is_name : PySem.W.keepIn K (.ref f_is_name) = true)
    (a_is_key : PySem.W.nsIn K mainGlobals "is_key" = some (some (.ref f_is_key)))
    (l_is_key : K.lookup f_is_key = some ⟨oc_is_key, od_is_key, .func (PySem.W.fnOf "is_key" "is_key" (defArgs (top 16)) (defBody (top 16)) (defScope (top 16)) .none kV_is_key doc_is_key pm_is_key an_is_key cdv_is_key ct_is_key), osl_is_key⟩)
    (c_is_key : PySem.W.codeIn K cdv_is_key "is_key" = true)
    (k_is_key : PySem.W.keepIn K (.ref f_is_key) = true)
    (a_need_size : PySem.W.nsIn K mainGlobals "need_size" = some (some (.ref f_need_size)))
    (l_need_size : K.lookup f_need_size = some ⟨oc_need_size, od_need_size, .func (PySem.W.fnOf "need_size" "need_size" (defArgs (top 17)) (defBody (top 17)) (defScope (top 17)) .none kV_need_size doc_need_size pm_need_size an_need_size cdv_need_size ct_need_size), osl_need_size⟩)
    (c_need_size : PySem.W.codeIn K cdv_need_size "need_size" = true)
    (k_need_size : PySem.W.keepIn K (.ref f_need_size) = true)
    (a_need_key : PySem.W.nsIn K mainGlobals "need_key" = some (some (.ref f_need_key)))
    (l_need_key : K.lookup f_need_key = some ⟨oc_need_key, od_need_key, .func (PySem.W.fnOf "need_key" "need_key" (defArgs (top 18)) (defBody (top 18)) (defScope (top 18)) .none kV_need_key doc_need_key pm_need_key an_need_key cdv_need_key ct_need_key), osl_need_key⟩)
    (c_need_key : PySem.W.codeIn K cdv_need_key "need_key" = true)
    (k_need_key : PySem.W.keepIn K (.ref f_need_key) = true)
    (a_need_cell : PySem.W.nsIn K mainGlobals "need_cell" = some (some (.ref f_need_cell)))
    (l_need_cell : K.lookup f_need_cell = some ⟨oc_need_cell, od_need_cell, .func (PySem.W.fnOf "need_cell" "need_cell" (defArgs (top 19)) (defBody (top 19)) (defScope (top 19)) .none kV_need_cell doc_need_cell pm_need_cell an_need_cell cdv_need_cell ct_need_cell), osl_need_cell⟩)
    (c_need_cell : PySem.W.codeIn K cdv_need_cell "need_cell" = true)
    (k_need_cell : PySem.W.keepIn K (.ref f_need_cell) = true)
    (a_is_cells : PySem.W.nsIn K mainGlobals "is_cells" = some (some (.ref f_is_cells)))
    (l_is_cells : K.lookup f_is_cells = some ⟨oc_is_cells, od_is_cells, .func (PySem.W.fnOf "is_cells" "is_cells" (defArgs (top 22)) (defBody (top 22)) (defScope (top 22)) .none kV_is_cells doc_is_cells pm_is_cells an_is_cells cdv_is_cells ct_is_cells), osl_is_cells⟩)
    (c_is_cells : PySem.W.codeIn K cdv_is_cells "is_cells" = true)
    (k_is_cells : PySem.W.keepIn K (.ref f_is_cells) = true)
    (a_is_plain_kind : PySem.W.nsIn K mainGlobals "is_plain_kind" = some (some (.ref f_is_plain_kind)))
    (l_is_plain_kind : K.lookup f_is_plain_kind = some ⟨oc_is_plain_kind, od_is_plain_kind, .func (PySem.W.fnOf "is_plain_kind" "is_plain_kind" (defArgs (top 24)) (defBody (top 24)) (defScope (top 24)) .none kV_is_plain_kind doc_is_plain_kind pm_is_plain_kind an_is_plain_kind cdv_is_plain_kind ct_is_plain_kind), osl_is_plain_kind⟩)
    (c_is_plain_kind : PySem.W.codeIn K cdv_is_plain_kind "is_plain_kind" = true)
    (k_is_plain_kind : PySem.W.keepIn K (.ref f_is_plain_kind) = true)
    (a_is_kind_of : PySem.W.nsIn K mainGlobals "is_kind_of" = some (some (.ref f_is_kind_of)))
    (l_is_kind_of : K.lookup f_is_kind_of = some ⟨oc_is_kind_of, od_is_kind_of, .func (PySem.W.fnOf "is_kind_of" "is_kind_of" (defArgs (top 25)) (defBody (top 25)) (defScope (top 25)) .none kV_is_kind_of doc_is_kind_of pm_is_kind_of an_is_kind_of cdv_is_kind_of ct_is_kind_of), osl_is_kind_of⟩)
    (c_is_kind_of : PySem.W.codeIn K cdv_is_kind_of "is_kind_of" = true)
    (k_is_kind_of : PySem.W.keepIn K (.ref f_is_kind_of) = true)
    (a_need_kind : PySem.W.nsIn K mainGlobals "need_kind" = some (some (.ref f_need_kind)))
    (l_need_kind : K.lookup f_need_kind = some ⟨oc_need_kind, od_need_kind, .func (PySem.W.fnOf "need_kind" "need_kind" (defArgs (top 26)) (defBody (top 26)) (defScope (top 26)) .none kV_need_kind doc_need_kind pm_need_kind an_need_kind cdv_need_kind ct_need_kind), osl_need_kind⟩)
    (c_need_kind : PySem.W.codeIn K cdv_need_kind "need_kind" = true)
    (k_need_kind : PySem.W.keepIn K (.ref f_need_kind) = true)
    (a_step_of : PySem.W.nsIn K mainGlobals "step_of" = some (some (.ref f_step_of)))
    (l_step_of : K.lookup f_step_of = some ⟨oc_step_of, od_step_of, .func (PySem.W.fnOf "step_of" "step_of" (defArgs (top 28)) (defBody (top 28)) (defScope (top 28)) .none kV_step_of doc_step_of pm_step_of an_step_of cdv_step_of ct_step_of), osl_step_of⟩)
    (c_step_of : PySem.W.codeIn K cdv_step_of "step_of" = true)
    (k_step_of : PySem.W.keepIn K (.ref f_step_of) = true)
    (a_cells_in_turn : PySem.W.nsIn K mainGlobals "cells_in_turn" = some (some (.ref f_cells_in_turn)))
    (l_cells_in_turn : K.lookup f_cells_in_turn = some ⟨oc_cells_in_turn, od_cells_in_turn, .func (PySem.W.fnOf "cells_in_turn" "cells_in_turn" (defArgs (top 29)) (defBody (top 29)) (defScope (top 29)) .none kV_cells_in_turn doc_cells_in_turn pm_cells_in_turn an_cells_in_turn cdv_cells_in_turn ct_cells_in_turn), osl_cells_in_turn⟩)
    (c_cells_in_turn : PySem.W.codeIn K cdv_cells_in_turn "cells_in_turn" = true)
    (k_cells_in_turn : PySem.W.keepIn K (.ref f_cells_in_turn) = true)
    (a_row_at : PySem.W.nsIn K mainGlobals "row_at" = some (some (.ref f_row_at)))
    (l_row_at : K.lookup f_row_at = some ⟨oc_row_at, od_row_at, .func (PySem.W.fnOf "row_at" "row_at" (defArgs (top 30)) (defBody (top 30)) (defScope (top 30)) .none kV_row_at doc_row_at pm_row_at an_row_at cdv_row_at ct_row_at), osl_row_at⟩)
    (c_row_at : PySem.W.codeIn K cdv_row_at "row_at" = true)
    (k_row_at : PySem.W.keepIn K (.ref f_row_at) = true)
    (a_has_row : PySem.W.nsIn K mainGlobals "has_row" = some (some (.ref f_has_row)))
    (l_has_row : K.lookup f_has_row = some ⟨oc_has_row, od_has_row, .func (PySem.W.fnOf "has_row" "has_row" (defArgs (top 31)) (defBody (top 31)) (defScope (top 31)) .none kV_has_row doc_has_row pm_has_row an_has_row cdv_has_row ct_has_row), osl_has_row⟩)
    (c_has_row : PySem.W.codeIn K cdv_has_row "has_row" = true)
    (k_has_row : PySem.W.keepIn K (.ref f_has_row) = true)
    (a_need_rows : PySem.W.nsIn K mainGlobals "need_rows" = some (some (.ref f_need_rows)))
    (l_need_rows : K.lookup f_need_rows = some ⟨oc_need_rows, od_need_rows, .func (PySem.W.fnOf "need_rows" "need_rows" (defArgs (top 32)) (defBody (top 32)) (defScope (top 32)) .none kV_need_rows doc_need_rows pm_need_rows an_need_rows cdv_need_rows ct_need_rows), osl_need_rows⟩)
    (c_need_rows : PySem.W.codeIn K cdv_need_rows "need_rows" = true)
    (k_need_rows : PySem.W.keepIn K (.ref f_need_rows) = true)
    (a_need_row_of : PySem.W.nsIn K mainGlobals "need_row_of" = some (some (.ref f_need_row_of)))
    (l_need_row_of : K.lookup f_need_row_of = some ⟨oc_need_row_of, od_need_row_of, .func (PySem.W.fnOf "need_row_of" "need_row_of" (defArgs (top 33)) (defBody (top 33)) (defScope (top 33)) .none kV_need_row_of doc_need_row_of pm_need_row_of an_need_row_of cdv_need_row_of ct_need_row_of), osl_need_row_of⟩)
    (c_need_row_of : PySem.W.codeIn K cdv_need_row_of "need_row_of" = true)
    (k_need_row_of : PySem.W.keepIn K (.ref f_need_row_of) = true)
    (a_row_of : PySem.W.nsIn K mainGlobals "row_of" = some (some (.ref f_row_of)))
    (l_row_of : K.lookup f_row_of = some ⟨oc_row_of, od_row_of, .func (PySem.W.fnOf "row_of" "row_of" (defArgs (top 34)) (defBody (top 34)) (defScope (top 34)) .none kV_row_of doc_row_of pm_row_of an_row_of cdv_row_of ct_row_of), osl_row_of⟩)
    (c_row_of : PySem.W.codeIn K cdv_row_of "row_of" = true)
    (k_row_of : PySem.W.keepIn K (.ref f_row_of) = true)
    (a_home_of : PySem.W.nsIn K mainGlobals "home_of" = some (some (.ref f_home_of)))
    (l_home_of : K.lookup f_home_of = some ⟨oc_home_of, od_home_of, .func (PySem.W.fnOf "home_of" "home_of" (defArgs (top 35)) (defBody (top 35)) (defScope (top 35)) .none kV_home_of doc_home_of pm_home_of an_home_of cdv_home_of ct_home_of), osl_home_of⟩)
    (c_home_of : PySem.W.codeIn K cdv_home_of "home_of" = true)
    (k_home_of : PySem.W.keepIn K (.ref f_home_of) = true)
    (a_place_in : PySem.W.nsIn K mainGlobals "place_in" = some (some (.ref f_place_in)))
    (l_place_in : K.lookup f_place_in = some ⟨oc_place_in, od_place_in, .func (PySem.W.fnOf "place_in" "place_in" (defArgs (top 36)) (defBody (top 36)) (defScope (top 36)) .none kV_place_in doc_place_in pm_place_in an_place_in cdv_place_in ct_place_in), osl_place_in⟩)
    (c_place_in : PySem.W.codeIn K cdv_place_in "place_in" = true)
    (k_place_in : PySem.W.keepIn K (.ref f_place_in) = true)
    (a_together : PySem.W.nsIn K mainGlobals "together" = some (some (.ref f_together)))
    (l_together : K.lookup f_together = some ⟨oc_together, od_together, .func (PySem.W.fnOf "together" "together" (defArgs (top 37)) (defBody (top 37)) (defScope (top 37)) .none kV_together doc_together pm_together an_together cdv_together ct_together), osl_together⟩)
    (c_together : PySem.W.codeIn K cdv_together "together" = true)
    (k_together : PySem.W.keepIn K (.ref f_together) = true)
    (a_need_great : PySem.W.nsIn K mainGlobals "need_great" = some (some (.ref f_need_great)))
    (l_need_great : K.lookup f_need_great = some ⟨oc_need_great, od_need_great, .func (PySem.W.fnOf "need_great" "need_great" (defArgs (top 40)) (defBody (top 40)) (defScope (top 40)) .none kV_need_great doc_need_great pm_need_great an_need_great cdv_need_great ct_need_great), osl_need_great⟩)
    (c_need_great : PySem.W.codeIn K cdv_need_great "need_great" = true)
    (k_need_great : PySem.W.keepIn K (.ref f_need_great) = true)
    (a_powered : PySem.W.nsIn K mainGlobals "powered" = some (some (.ref f_powered)))
    (l_powered : K.lookup f_powered = some ⟨oc_powered, od_powered, .func (PySem.W.fnOf "powered" "powered" (defArgs (top 41)) (defBody (top 41)) (defScope (top 41)) .none kV_powered doc_powered pm_powered an_powered cdv_powered ct_powered), osl_powered⟩)
    (c_powered : PySem.W.codeIn K cdv_powered "powered" = true)
    (k_powered : PySem.W.keepIn K (.ref f_powered) = true)
    (a_prime_powers : PySem.W.nsIn K mainGlobals "prime_powers" = some (some (.ref f_prime_powers)))
    (l_prime_powers : K.lookup f_prime_powers = some ⟨oc_prime_powers, od_prime_powers, .func (PySem.W.fnOf "prime_powers" "prime_powers" (defArgs (top 42)) (defBody (top 42)) (defScope (top 42)) .none kV_prime_powers doc_prime_powers pm_prime_powers an_prime_powers cdv_prime_powers ct_prime_powers), osl_prime_powers⟩)
    (c_prime_powers : PySem.W.codeIn K cdv_prime_powers "prime_powers" = true)
    (k_prime_powers : PySem.W.keepIn K (.ref f_prime_powers) = true)
    (a_divided : PySem.W.nsIn K mainGlobals "divided" = some (some (.ref f_divided)))
    (l_divided : K.lookup f_divided = some ⟨oc_divided, od_divided, .func (PySem.W.fnOf "divided" "divided" (defArgs (top 43)) (defBody (top 43)) (defScope (top 43)) .none kV_divided doc_divided pm_divided an_divided cdv_divided ct_divided), osl_divided⟩)
    (c_divided : PySem.W.codeIn K cdv_divided "divided" = true)
    (k_divided : PySem.W.keepIn K (.ref f_divided) = true)
    (a_squares : PySem.W.nsIn K mainGlobals "squares" = some (some (.ref f_squares)))
    (l_squares : K.lookup f_squares = some ⟨oc_squares, od_squares, .func (PySem.W.fnOf "squares" "squares" (defArgs (top 44)) (defBody (top 44)) (defScope (top 44)) .none kV_squares doc_squares pm_squares an_squares cdv_squares ct_squares), osl_squares⟩)
    (c_squares : PySem.W.codeIn K cdv_squares "squares" = true)
    (k_squares : PySem.W.keepIn K (.ref f_squares) = true)
    (a_met_by_power : PySem.W.nsIn K mainGlobals "met_by_power" = some (some (.ref f_met_by_power)))
    (l_met_by_power : K.lookup f_met_by_power = some ⟨oc_met_by_power, od_met_by_power, .func (PySem.W.fnOf "met_by_power" "met_by_power" (defArgs (top 45)) (defBody (top 45)) (defScope (top 45)) .none kV_met_by_power doc_met_by_power pm_met_by_power an_met_by_power cdv_met_by_power ct_met_by_power), osl_met_by_power⟩)
    (c_met_by_power : PySem.W.codeIn K cdv_met_by_power "met_by_power" = true)
    (k_met_by_power : PySem.W.keepIn K (.ref f_met_by_power) = true)
    (a_cells_met : PySem.W.nsIn K mainGlobals "cells_met" = some (some (.ref f_cells_met)))
    (l_cells_met : K.lookup f_cells_met = some ⟨oc_cells_met, od_cells_met, .func (PySem.W.fnOf "cells_met" "cells_met" (defArgs (top 46)) (defBody (top 46)) (defScope (top 46)) .none kV_cells_met doc_cells_met pm_cells_met an_cells_met cdv_cells_met ct_cells_met), osl_cells_met⟩)
    (c_cells_met : PySem.W.codeIn K cdv_cells_met "cells_met" = true)
    (k_cells_met : PySem.W.keepIn K (.ref f_cells_met) = true)
    (a_meets_all : PySem.W.nsIn K mainGlobals "meets_all" = some (some (.ref f_meets_all)))
    (l_meets_all : K.lookup f_meets_all = some ⟨oc_meets_all, od_meets_all, .func (PySem.W.fnOf "meets_all" "meets_all" (defArgs (top 47)) (defBody (top 47)) (defScope (top 47)) .none kV_meets_all doc_meets_all pm_meets_all an_meets_all cdv_meets_all ct_meets_all), osl_meets_all⟩)
    (c_meets_all : PySem.W.codeIn K cdv_meets_all "meets_all" = true)
    (k_meets_all : PySem.W.keepIn K (.ref f_meets_all) = true)
    (a_first_short : PySem.W.nsIn K mainGlobals "first_short" = some (some (.ref f_first_short)))
    (l_first_short : K.lookup f_first_short = some ⟨oc_first_short, od_first_short, .func (PySem.W.fnOf "first_short" "first_short" (defArgs (top 48)) (defBody (top 48)) (defScope (top 48)) .none kV_first_short doc_first_short pm_first_short an_first_short cdv_first_short ct_first_short), osl_first_short⟩)
    (c_first_short : PySem.W.codeIn K cdv_first_short "first_short" = true)
    (k_first_short : PySem.W.keepIn K (.ref f_first_short) = true)
    (a_unlike_rows : PySem.W.nsIn K mainGlobals "unlike_rows" = some (some (.ref f_unlike_rows)))
    (l_unlike_rows : K.lookup f_unlike_rows = some ⟨oc_unlike_rows, od_unlike_rows, .func (PySem.W.fnOf "unlike_rows" "unlike_rows" (defArgs (top 49)) (defBody (top 49)) (defScope (top 49)) .none kV_unlike_rows doc_unlike_rows pm_unlike_rows an_unlike_rows cdv_unlike_rows ct_unlike_rows), osl_unlike_rows⟩)
    (c_unlike_rows : PySem.W.codeIn K cdv_unlike_rows "unlike_rows" = true)
    (k_unlike_rows : PySem.W.keepIn K (.ref f_unlike_rows) = true)
    (a_number_with : PySem.W.nsIn K mainGlobals "number_with" = some (some (.ref f_number_with)))
    (l_number_with : K.lookup f_number_with = some ⟨oc_number_with, od_number_with, .func (PySem.W.fnOf "number_with" "number_with" (defArgs (top 50)) (defBody (top 50)) (defScope (top 50)) .none kV_number_with doc_number_with pm_number_with an_number_with cdv_number_with ct_number_with), osl_number_with⟩)
    (c_number_with : PySem.W.codeIn K cdv_number_with "number_with" = true)
    (k_number_with : PySem.W.keepIn K (.ref f_number_with) = true)
    (a__law_turned : PySem.W.nsIn K mainGlobals "_law_turned" = some (some (.ref f__law_turned)))
    (l__law_turned : K.lookup f__law_turned = some ⟨oc__law_turned, od__law_turned, .func (PySem.W.fnOf "_law_turned" "_law_turned" (defArgs (top 64)) (defBody (top 64)) (defScope (top 64)) .none kV__law_turned doc__law_turned pm__law_turned an__law_turned cdv__law_turned ct__law_turned), osl__law_turned⟩)
    (c__law_turned : PySem.W.codeIn K cdv__law_turned "_law_turned" = true)
    (k__law_turned : PySem.W.keepIn K (.ref f__law_turned) = true)
    (a__law_beside : PySem.W.nsIn K mainGlobals "_law_beside" = some (some (.ref f__law_beside)))
    (l__law_beside : K.lookup f__law_beside = some ⟨oc__law_beside, od__law_beside, .func (PySem.W.fnOf "_law_beside" "_law_beside" (defArgs (top 65)) (defBody (top 65)) (defScope (top 65)) .none kV__law_beside doc__law_beside pm__law_beside an__law_beside cdv__law_beside ct__law_beside), osl__law_beside⟩)
    (c__law_beside : PySem.W.codeIn K cdv__law_beside "_law_beside" = true)
    (k__law_beside : PySem.W.keepIn K (.ref f__law_beside) = true)
    (a__law_begun : PySem.W.nsIn K mainGlobals "_law_begun" = some (some (.ref f__law_begun)))
    (l__law_begun : K.lookup f__law_begun = some ⟨oc__law_begun, od__law_begun, .func (PySem.W.fnOf "_law_begun" "_law_begun" (defArgs (top 52)) (defBody (top 52)) (defScope (top 52)) .none kV__law_begun doc__law_begun pm__law_begun an__law_begun cdv__law_begun ct__law_begun), osl__law_begun⟩)
    (c__law_begun : PySem.W.codeIn K cdv__law_begun "_law_begun" = true)
    (k__law_begun : PySem.W.keepIn K (.ref f__law_begun) = true) : Tx K mg where
  b_len := PySem.W.mg_none_of X G z_len
  b_isinstance := PySem.W.mg_none_of X G z_isinstance
  b_int := PySem.W.mg_none_of X G z_int
  b_bool := PySem.W.mg_none_of X G z_bool
  b_tuple := PySem.W.mg_none_of X G z_tuple
  b_list := PySem.W.mg_none_of X G z_list
  b_range := PySem.W.mg_none_of X G z_range
  b_str := PySem.W.mg_none_of X G z_str
  b_dict := PySem.W.mg_none_of X G z_dict
  b_abs := PySem.W.mg_none_of X G z_abs
  b_min := PySem.W.mg_none_of X G z_min
  b_max := PySem.W.mg_none_of X G z_max
  b_all := PySem.W.mg_none_of X G z_all
  b_zip := PySem.W.mg_none_of X G z_zip
  b_set := PySem.W.mg_none_of X G z_set
  g_LETTERS := gs_mk X G g_LETTERS
  g_MOST_LETTERS := gi_mk X G g_MOST_LETTERS
  g_MOST_NUMBER := gi_mk X G g_MOST_NUMBER
  g_MOST_SIZE := gi_mk X G g_MOST_SIZE
  g_MOST_STEP := gi_mk X G g_MOST_STEP
  g_MOST_GREAT := gi_mk X G g_MOST_GREAT
  e_BadSize := ext_mk X G e1_BadSize e2_BadSize e3_BadSize e4_BadSize e5_BadSize
  e_BadKey := ext_mk X G e1_BadKey e2_BadKey e3_BadKey e4_BadKey e5_BadKey
  e_BadKind := ext_mk X G e1_BadKind e2_BadKind e3_BadKind e4_BadKind e5_BadKind
  e_BadGreat := ext_mk X G e1_BadGreat e2_BadGreat e3_BadGreat e4_BadGreat e5_BadGreat
  e_BadCell := ext_mk X G e1_BadCell e2_BadCell e3_BadCell e4_BadCell e5_BadCell
  e_BadRow := ext_mk X G e1_BadRow e2_BadRow e3_BadRow e4_BadRow e5_BadRow
  ft__law_mixed := ft_mk X G a__law_mixed l__law_mixed c__law_mixed k__law_mixed fun _ _ _ _ _ _ us hl => match us, hl with | [_], _ => rfl
  ft__law_draw := ft_mk X G a__law_draw l__law_draw c__law_draw k__law_draw fun _ _ _ _ _ _ us hl => match us, hl with | [_, _], _ => rfl
  ft__law_pick := ft_mk X G a__law_pick l__law_pick c__law_pick k__law_pick fun _ _ _ _ _ _ us hl => match us, hl with | [_, _], _ => rfl
  ft__law_shuffled := ft_mk X G a__law_shuffled l__law_shuffled c__law_shuffled k__law_shuffled fun _ _ _ _ _ _ us hl => match us, hl with | [_, _], _ => rfl
  ft__law_wholes := ft_mk X G a__law_wholes l__law_wholes c__law_wholes k__law_wholes fun _ _ _ _ _ _ us hl => match us, hl with | [_, _, _, _], _ => rfl
  ft__law_size := ft_mk X G a__law_size l__law_size c__law_size k__law_size fun _ _ _ _ _ _ us hl => match us, hl with | [_, _], _ => rfl
  ft__law_number := ft_mk X G a__law_number l__law_number c__law_number k__law_number fun _ _ _ _ _ _ us hl => match us, hl with | [_, _], _ => rfl
  ft__law_names := ft_mk X G a__law_names l__law_names c__law_names k__law_names fun _ _ _ _ _ _ us hl => match us, hl with | [_, _], _ => rfl
  ft__law_lot := ft_mk X G a__law_lot l__law_lot c__law_lot k__law_lot fun _ _ _ _ _ _ us hl => match us, hl with | [_, _, _], _ => rfl
  ft__law_told := ft_mk X G a__law_told l__law_told c__law_told k__law_told fun _ _ _ _ _ _ us hl => match us, hl with | [_, _, _], _ => rfl
  ft__law_kind := ft_mk X G a__law_kind l__law_kind c__law_kind k__law_kind fun _ _ _ _ _ _ us hl => match us, hl with | [_, _, _], _ => rfl
  ft_is_whole := ft_mk X G a_is_whole l_is_whole c_is_whole k_is_whole fun _ _ _ _ _ _ us hl => match us, hl with | [_, _, _], _ => rfl
  ft_is_name := ft_mk X G a_is_name l_is_name c_is_name k_is_name fun _ _ _ _ _ _ us hl => match us, hl with | [_], _ => rfl
  ft_is_key := ft_mk X G a_is_key l_is_key c_is_key k_is_key fun _ _ _ _ _ _ us hl => match us, hl with | [_], _ => rfl
  ft_need_size := ft_mk X G a_need_size l_need_size c_need_size k_need_size fun _ _ _ _ _ _ us hl => match us, hl with | [_], _ => rfl
  ft_need_key := ft_mk X G a_need_key l_need_key c_need_key k_need_key fun _ _ _ _ _ _ us hl => match us, hl with | [_], _ => rfl
  ft_need_cell := ft_mk X G a_need_cell l_need_cell c_need_cell k_need_cell fun _ _ _ _ _ _ us hl => match us, hl with | [_, _], _ => rfl
  ft_is_cells := ft_mk X G a_is_cells l_is_cells c_is_cells k_is_cells fun _ _ _ _ _ _ us hl => match us, hl with | [_, _], _ => rfl
  ft_is_plain_kind := ft_mk X G a_is_plain_kind l_is_plain_kind c_is_plain_kind k_is_plain_kind fun _ _ _ _ _ _ us hl => match us, hl with | [_], _ => rfl
  ft_is_kind_of := ft_mk X G a_is_kind_of l_is_kind_of c_is_kind_of k_is_kind_of fun _ _ _ _ _ _ us hl => match us, hl with | [_, _], _ => rfl
  ft_need_kind := ft_mk X G a_need_kind l_need_kind c_need_kind k_need_kind fun _ _ _ _ _ _ us hl => match us, hl with | [_, _], _ => rfl
  ft_step_of := ft_mk X G a_step_of l_step_of c_step_of k_step_of fun _ _ _ _ _ _ us hl => match us, hl with | [_, _], _ => rfl
  ft_cells_in_turn := ft_mk X G a_cells_in_turn l_cells_in_turn c_cells_in_turn k_cells_in_turn fun _ _ _ _ _ _ us hl => match us, hl with | [_, _, _], _ => rfl
  ft_row_at := ft_mk X G a_row_at l_row_at c_row_at k_row_at fun _ _ _ _ _ _ us hl => match us, hl with | [_, _, _], _ => rfl
  ft_has_row := ft_mk X G a_has_row l_has_row c_has_row k_has_row fun _ _ _ _ _ _ us hl => match us, hl with | [_, _], _ => rfl
  ft_need_rows := ft_mk X G a_need_rows l_need_rows c_need_rows k_need_rows fun _ _ _ _ _ _ us hl => match us, hl with | [_, _], _ => rfl
  ft_need_row_of := ft_mk X G a_need_row_of l_need_row_of c_need_row_of k_need_row_of fun _ _ _ _ _ _ us hl => match us, hl with | [_, _, _], _ => rfl
  ft_row_of := ft_mk X G a_row_of l_row_of c_row_of k_row_of fun _ _ _ _ _ _ us hl => match us, hl with | [_, _, _], _ => rfl
  ft_home_of := ft_mk X G a_home_of l_home_of c_home_of k_home_of fun _ _ _ _ _ _ us hl => match us, hl with | [_, _, _], _ => rfl
  ft_place_in := ft_mk X G a_place_in l_place_in c_place_in k_place_in fun _ _ _ _ _ _ us hl => match us, hl with | [_, _, _, _], _ => rfl
  ft_together := ft_mk X G a_together l_together c_together k_together fun _ _ _ _ _ _ us hl => match us, hl with | [_, _, _, _], _ => rfl
  ft_need_great := ft_mk X G a_need_great l_need_great c_need_great k_need_great fun _ _ _ _ _ _ us hl => match us, hl with | [_, _], _ => rfl
  ft_powered := ft_mk X G a_powered l_powered c_powered k_powered fun _ _ _ _ _ _ us hl => match us, hl with | [_, _], _ => rfl
  ft_prime_powers := ft_mk X G a_prime_powers l_prime_powers c_prime_powers k_prime_powers fun _ _ _ _ _ _ us hl => match us, hl with | [_], _ => rfl
  ft_divided := ft_mk X G a_divided l_divided c_divided k_divided fun _ _ _ _ _ _ us hl => match us, hl with | [_, _, _], _ => rfl
  ft_squares := ft_mk X G a_squares l_squares c_squares k_squares fun _ _ _ _ _ _ us hl => match us, hl with | [_, _], _ => rfl
  ft_met_by_power := ft_mk X G a_met_by_power l_met_by_power c_met_by_power k_met_by_power fun _ _ _ _ _ _ us hl => match us, hl with | [_, _, _], _ => rfl
  ft_cells_met := ft_mk X G a_cells_met l_cells_met c_cells_met k_cells_met fun _ _ _ _ _ _ us hl => match us, hl with | [_, _], _ => rfl
  ft_meets_all := ft_mk X G a_meets_all l_meets_all c_meets_all k_meets_all fun _ _ _ _ _ _ us hl => match us, hl with | [_, _], _ => rfl
  ft_first_short := ft_mk X G a_first_short l_first_short c_first_short k_first_short fun _ _ _ _ _ _ us hl => match us, hl with | [_], _ => rfl
  ft_unlike_rows := ft_mk X G a_unlike_rows l_unlike_rows c_unlike_rows k_unlike_rows fun _ _ _ _ _ _ us hl => match us, hl with | [_, _], _ => rfl
  ft_number_with := ft_mk X G a_number_with l_number_with c_number_with k_number_with fun _ _ _ _ _ _ us hl => match us, hl with | [_, _, _], _ => rfl
  ft__law_turned := ft_mk X G a__law_turned l__law_turned c__law_turned k__law_turned fun _ _ _ _ _ _ us hl => match us, hl with | [_, _, _, _, _], _ => rfl
  ft__law_beside := ft_mk X G a__law_beside l__law_beside c__law_beside k__law_beside fun _ _ _ _ _ _ us hl => match us, hl with | [_, _, _, _], _ => rfl
  ft_begun := ft_mk X G a__law_begun l__law_begun c__law_begun k__law_begun fun _ _ _ _ _ _ us hl => match us, hl with | [_], _ => rfl
/-- what the top must tell -/
structure Says (K : PySem.W.Frag) (mg : Str → Option Value) (fa : Addr) : Prop where
  ex : ∃ (fd : FuncData) (c : Addr), Tx K mg ∧ Fun K "law" "law" s_law fa fd ∧ Binds K fd ["script"] [] ∧ fd.code = .ref c
theorem walk {l : PySem.W.OpenLaw} {q : Program} {loose : List Str} {XP : (Str → Option Value) → Heap → Prop} {YP : World → Heap → Prop} {d : DefRec} {K : Params → PySem.W.Frag} (hn : l.most = some 63) (hdf : d.params.defaults = []) 
    (hY : ∀ (w : World) (h : Heap), YP w h → (K w.params).In h) (F : ∀ (w : World) (mg : Str → Option Value) (fa : Addr) (h : Heap), (K w.params).In h → h.Ns mainGlobals mg → mg d.name = some (.ref fa) → Says (K w.params) mg fa) :
    PySem.W.WalkO q loose XP YP l.row.toRowW d [] (fun f vs => PySem.call f vs) := by
  refine Att.attach_callB hn hdf fun w s₀ s₁ mg mb fa o pm cd doc a vs ns G Y ho hd hcd hmg hobj hints hlen hbits hg => ?_
  have KX := hY w _ Y
  obtain ⟨fd, c, T, Fl, hb, hc⟩ := (F w mg fa _ KX G.T.g hmg).ex
  refine fin T Fl hb hc ⟨KX, G.T.g, G.T.b, G.T.builtins, G.T.nolimit, hg, fun p m => (nomatch m), fun p m => (nomatch m), fun p m => (nomatch m), G.T.bmain, hobj⟩ hints hlen hbits fun s u => ?_
  obtain ⟨oc, od, kV, doc', pm', an, cdv, ct, osl, rfl, _⟩ := Fl.ex
  exact .of_eq rfl
theorem law_mk {K : PySem.W.Frag} {h : Heap} {mg : Str → Option Value} {fa f c : Addr} {oc kV doc pm ct : Value} {od an : Option Addr} {osl : Array (Option Value)} (X : K.In h) (G : h.Ns mainGlobals mg) (hm : mg "law" = some (.ref fa)) (T : Tx K mg) (a : PySem.W.nsIn K mainGlobals "law" = some (some (.ref f)))
    (l : K.lookup f = some ⟨oc, od, .func (PySem.W.fnOf "law" "law" (defArgs s_law) (defBody s_law) (defScope s_law) .none kV doc pm an (.ref c) ct), osl⟩) (k1 : PySem.W.codeIn K (.ref c) "law" = true) (k2 : PySem.W.keepIn K (.ref f) = true) : Says K mg fa := by
  have e := hm.symm.trans (PySem.W.mg_of X G a)
  cases e
  have F := fun_mk (st := s_law) l k1 k2
  exact ⟨_, c, T, F, F.binds fun _ _ _ _ _ _ us hl => match us, hl with | [_], _ => rfl, rfl⟩
end My
open PySem PySem.W PyProof.Rows
set_option maxRecDepth 100000 in
set_option maxHeartbeats 0 in
theorem PySem.Challenge.cw_hashhall_k05_whole_rows_all_ways_round_holds : PySem.Challenge.rw_hashhall_k05_whole_rows_all_ways_round.Holds := by
  w_on; o_law; k_head; (case hw => w_witness2)
  k_fill
  refine My.walk (l := PySem.Challenge.rw_hashhall_k05_whole_rows_all_ways_round) rfl rfl (fun w h Y => PySem.W.kIn_of Y) ?F
  case F =>
    intro w mg fa h KX GN hmg
    refine' My.law_mk KX GN hmg ?T ?a ?l ?k1 ?k2
    case T =>
      refine' My.tx_mk KX GN ?z_len ?z_isinstance ?z_int ?z_bool ?z_tuple ?z_list ?z_range ?z_str ?z_dict ?z_abs ?z_min ?z_max ?z_all ?z_zip ?z_set ?g_LETTERS ?g_MOST_LETTERS ?g_MOST_NUMBER ?g_MOST_SIZE ?g_MOST_STEP ?g_MOST_GREAT ?e1_BadSize ?e2_BadSize ?e3_BadSize ?e4_BadSize ?e5_BadSize ?e1_BadKey ?e2_BadKey ?e3_BadKey ?e4_BadKey ?e5_BadKey ?e1_BadKind ?e2_BadKind ?e3_BadKind ?e4_BadKind ?e5_BadKind ?e1_BadGreat ?e2_BadGreat ?e3_BadGreat ?e4_BadGreat ?e5_BadGreat ?e1_BadCell ?e2_BadCell ?e3_BadCell ?e4_BadCell ?e5_BadCell ?e1_BadRow ?e2_BadRow ?e3_BadRow ?e4_BadRow ?e5_BadRow ?a__law_mixed ?l__law_mixed ?c__law_mixed ?k__law_mixed ?a__law_draw ?l__law_draw ?c__law_draw ?k__law_draw ?a__law_pick ?l__law_pick ?c__law_pick ?k__law_pick ?a__law_shuffled ?l__law_shuffled ?c__law_shuffled ?k__law_shuffled ?a__law_wholes ?l__law_wholes ?c__law_wholes ?k__law_wholes ?a__law_size ?l__law_size ?c__law_size ?k__law_size ?a__law_number ?l__law_number ?c__law_number ?k__law_number ?a__law_names ?l__law_names ?c__law_names ?k__law_names ?a__law_lot ?l__law_lot ?c__law_lot ?k__law_lot ?a__law_told ?l__law_told ?c__law_told ?k__law_told ?a__law_kind ?l__law_kind ?c__law_kind ?k__law_kind ?a_is_whole ?l_is_whole ?c_is_whole ?k_is_whole ?a_is_name ?l_is_name ?c_is_name ?k_is_name ?a_is_key ?l_is_key ?c_is_key ?k_is_key ?a_need_size ?l_need_size ?c_need_size ?k_need_size ?a_need_key ?l_need_key ?c_need_key ?k_need_key ?a_need_cell ?l_need_cell ?c_need_cell ?k_need_cell ?a_is_cells ?l_is_cells ?c_is_cells ?k_is_cells ?a_is_plain_kind ?l_is_plain_kind ?c_is_plain_kind ?k_is_plain_kind ?a_is_kind_of ?l_is_kind_of ?c_is_kind_of ?k_is_kind_of ?a_need_kind ?l_need_kind ?c_need_kind ?k_need_kind ?a_step_of ?l_step_of ?c_step_of ?k_step_of ?a_cells_in_turn ?l_cells_in_turn ?c_cells_in_turn ?k_cells_in_turn ?a_row_at ?l_row_at ?c_row_at ?k_row_at ?a_has_row ?l_has_row ?c_has_row ?k_has_row ?a_need_rows ?l_need_rows ?c_need_rows ?k_need_rows ?a_need_row_of ?l_need_row_of ?c_need_row_of ?k_need_row_of ?a_row_of ?l_row_of ?c_row_of ?k_row_of ?a_home_of ?l_home_of ?c_home_of ?k_home_of ?a_place_in ?l_place_in ?c_place_in ?k_place_in ?a_together ?l_together ?c_together ?k_together ?a_need_great ?l_need_great ?c_need_great ?k_need_great ?a_powered ?l_powered ?c_powered ?k_powered ?a_prime_powers ?l_prime_powers ?c_prime_powers ?k_prime_powers ?a_divided ?l_divided ?c_divided ?k_divided ?a_squares ?l_squares ?c_squares ?k_squares ?a_met_by_power ?l_met_by_power ?c_met_by_power ?k_met_by_power ?a_cells_met ?l_cells_met ?c_cells_met ?k_cells_met ?a_meets_all ?l_meets_all ?c_meets_all ?k_meets_all ?a_first_short ?l_first_short ?c_first_short ?k_first_short ?a_unlike_rows ?l_unlike_rows ?c_unlike_rows ?k_unlike_rows ?a_number_with ?l_number_with ?c_number_with ?k_number_with ?a__law_turned ?l__law_turned ?c__law_turned ?k__law_turned ?a__law_beside ?l__law_beside ?c__law_beside ?k__law_beside ?a__law_begun ?l__law_begun ?c__law_begun ?k__law_begun
      (case z_len => first | k_is | kernel_rfl)
      (case z_isinstance => first | k_is | kernel_rfl)
      (case z_int => first | k_is | kernel_rfl)
      (case z_bool => first | k_is | kernel_rfl)
      (case z_tuple => first | k_is | kernel_rfl)
      (case z_list => first | k_is | kernel_rfl)
      (case z_range => first | k_is | kernel_rfl)
      (case z_str => first | k_is | kernel_rfl)
      (case z_dict => first | k_is | kernel_rfl)
      (case z_abs => first | k_is | kernel_rfl)
      (case z_min => first | k_is | kernel_rfl)
      (case z_max => first | k_is | kernel_rfl)
      (case z_all => first | k_is | kernel_rfl)
      (case z_zip => first | k_is | kernel_rfl)
      (case z_set => first | k_is | kernel_rfl)
      (case g_LETTERS => first | k_is | kernel_rfl)
      (case g_MOST_LETTERS => first | k_is | kernel_rfl)
      (case g_MOST_NUMBER => first | k_is | kernel_rfl)
      (case g_MOST_SIZE => first | k_is | kernel_rfl)
      (case g_MOST_STEP => first | k_is | kernel_rfl)
      (case g_MOST_GREAT => first | k_is | kernel_rfl)
      (case e1_BadSize => first | k_is | kernel_rfl)
      (case e2_BadSize => first | k_is | kernel_rfl)
      (case e3_BadSize => first | k_is | kernel_rfl)
      (case e4_BadSize => first | k_is | kernel_rfl)
      (case e5_BadSize => first | k_is | kernel_rfl)
      (case e1_BadKey => first | k_is | kernel_rfl)
      (case e2_BadKey => first | k_is | kernel_rfl)
      (case e3_BadKey => first | k_is | kernel_rfl)
      (case e4_BadKey => first | k_is | kernel_rfl)
      (case e5_BadKey => first | k_is | kernel_rfl)
      (case e1_BadKind => first | k_is | kernel_rfl)
      (case e2_BadKind => first | k_is | kernel_rfl)
      (case e3_BadKind => first | k_is | kernel_rfl)
      (case e4_BadKind => first | k_is | kernel_rfl)
      (case e5_BadKind => first | k_is | kernel_rfl)
      (case e1_BadGreat => first | k_is | kernel_rfl)
      (case e2_BadGreat => first | k_is | kernel_rfl)
      (case e3_BadGreat => first | k_is | kernel_rfl)
      (case e4_BadGreat => first | k_is | kernel_rfl)
      (case e5_BadGreat => first | k_is | kernel_rfl)
      (case e1_BadCell => first | k_is | kernel_rfl)
      (case e2_BadCell => first | k_is | kernel_rfl)
      (case e3_BadCell => first | k_is | kernel_rfl)
      (case e4_BadCell => first | k_is | kernel_rfl)
      (case e5_BadCell => first | k_is | kernel_rfl)
      (case e1_BadRow => first | k_is | kernel_rfl)
      (case e2_BadRow => first | k_is | kernel_rfl)
      (case e3_BadRow => first | k_is | kernel_rfl)
      (case e4_BadRow => first | k_is | kernel_rfl)
      (case e5_BadRow => first | k_is | kernel_rfl)
      (case a__law_mixed => first | k_is | kernel_rfl)
      (case l__law_mixed => first | k_is | kernel_rfl)
      (case c__law_mixed => first | k_is | kernel_rfl)
      (case k__law_mixed => first | k_is | kernel_rfl)
      (case a__law_draw => first | k_is | kernel_rfl)
      (case l__law_draw => first | k_is | kernel_rfl)
      (case c__law_draw => first | k_is | kernel_rfl)
      (case k__law_draw => first | k_is | kernel_rfl)
      (case a__law_pick => first | k_is | kernel_rfl)
      (case l__law_pick => first | k_is | kernel_rfl)
      (case c__law_pick => first | k_is | kernel_rfl)
      (case k__law_pick => first | k_is | kernel_rfl)
      (case a__law_shuffled => first | k_is | kernel_rfl)
      (case l__law_shuffled => first | k_is | kernel_rfl)
      (case c__law_shuffled => first | k_is | kernel_rfl)
      (case k__law_shuffled => first | k_is | kernel_rfl)
      (case a__law_wholes => first | k_is | kernel_rfl)
      (case l__law_wholes => first | k_is | kernel_rfl)
      (case c__law_wholes => first | k_is | kernel_rfl)
      (case k__law_wholes => first | k_is | kernel_rfl)
      (case a__law_size => first | k_is | kernel_rfl)
      (case l__law_size => first | k_is | kernel_rfl)
      (case c__law_size => first | k_is | kernel_rfl)
      (case k__law_size => first | k_is | kernel_rfl)
      (case a__law_number => first | k_is | kernel_rfl)
      (case l__law_number => first | k_is | kernel_rfl)
      (case c__law_number => first | k_is | kernel_rfl)
      (case k__law_number => first | k_is | kernel_rfl)
      (case a__law_names => first | k_is | kernel_rfl)
      (case l__law_names => first | k_is | kernel_rfl)
      (case c__law_names => first | k_is | kernel_rfl)
      (case k__law_names => first | k_is | kernel_rfl)
      (case a__law_lot => first | k_is | kernel_rfl)
      (case l__law_lot => first | k_is | kernel_rfl)
      (case c__law_lot => first | k_is | kernel_rfl)
      (case k__law_lot => first | k_is | kernel_rfl)
      (case a__law_told => first | k_is | kernel_rfl)
      (case l__law_told => first | k_is | kernel_rfl)
      (case c__law_told => first | k_is | kernel_rfl)
      (case k__law_told => first | k_is | kernel_rfl)
      (case a__law_kind => first | k_is | kernel_rfl)
      (case l__law_kind => first | k_is | kernel_rfl)
      (case c__law_kind => first | k_is | kernel_rfl)
      (case k__law_kind => first | k_is | kernel_rfl)
      (case a_is_whole => first | k_is | kernel_rfl)
      (case l_is_whole => first | k_is | kernel_rfl)
      (case c_is_whole => first | k_is | kernel_rfl)
      (case k_is_whole => first | k_is | kernel_rfl)
      (case a_is_name => first | k_is | kernel_rfl)
      (case l_is_name => first | k_is | kernel_rfl)
      (case c_is_name => first | k_is | kernel_rfl)
      (case k_is_name => first | k_is | kernel_rfl)
      (case a_is_key => first | k_is | kernel_rfl)
      (case l_is_key => first | k_is | kernel_rfl)
      (case c_is_key => first | k_is | kernel_rfl)
      (case k_is_key => first | k_is | kernel_rfl)
      (case a_need_size => first | k_is | kernel_rfl)
      (case l_need_size => first | k_is | kernel_rfl)
      (case c_need_size => first | k_is | kernel_rfl)
      (case k_need_size => first | k_is | kernel_rfl)
      (case a_need_key => first | k_is | kernel_rfl)
      (case l_need_key => first | k_is | kernel_rfl)
      (case c_need_key => first | k_is | kernel_rfl)
      (case k_need_key => first | k_is | kernel_rfl)
      (case a_need_cell => first | k_is | kernel_rfl)
      (case l_need_cell => first | k_is | kernel_rfl)
      (case c_need_cell => first | k_is | kernel_rfl)
      (case k_need_cell => first | k_is | kernel_rfl)
      (case a_is_cells => first | k_is | kernel_rfl)
      (case l_is_cells => first | k_is | kernel_rfl)
      (case c_is_cells => first | k_is | kernel_rfl)
      (case k_is_cells => first | k_is | kernel_rfl)
      (case a_is_plain_kind => first | k_is | kernel_rfl)
      (case l_is_plain_kind => first | k_is | kernel_rfl)
      (case c_is_plain_kind => first | k_is | kernel_rfl)
      (case k_is_plain_kind => first | k_is | kernel_rfl)
      (case a_is_kind_of => first | k_is | kernel_rfl)
      (case l_is_kind_of => first | k_is | kernel_rfl)
      (case c_is_kind_of => first | k_is | kernel_rfl)
      (case k_is_kind_of => first | k_is | kernel_rfl)
      (case a_need_kind => first | k_is | kernel_rfl)
      (case l_need_kind => first | k_is | kernel_rfl)
      (case c_need_kind => first | k_is | kernel_rfl)
      (case k_need_kind => first | k_is | kernel_rfl)
      (case a_step_of => first | k_is | kernel_rfl)
      (case l_step_of => first | k_is | kernel_rfl)
      (case c_step_of => first | k_is | kernel_rfl)
      (case k_step_of => first | k_is | kernel_rfl)
      (case a_cells_in_turn => first | k_is | kernel_rfl)
      (case l_cells_in_turn => first | k_is | kernel_rfl)
      (case c_cells_in_turn => first | k_is | kernel_rfl)
      (case k_cells_in_turn => first | k_is | kernel_rfl)
      (case a_row_at => first | k_is | kernel_rfl)
      (case l_row_at => first | k_is | kernel_rfl)
      (case c_row_at => first | k_is | kernel_rfl)
      (case k_row_at => first | k_is | kernel_rfl)
      (case a_has_row => first | k_is | kernel_rfl)
      (case l_has_row => first | k_is | kernel_rfl)
      (case c_has_row => first | k_is | kernel_rfl)
      (case k_has_row => first | k_is | kernel_rfl)
      (case a_need_rows => first | k_is | kernel_rfl)
      (case l_need_rows => first | k_is | kernel_rfl)
      (case c_need_rows => first | k_is | kernel_rfl)
      (case k_need_rows => first | k_is | kernel_rfl)
      (case a_need_row_of => first | k_is | kernel_rfl)
      (case l_need_row_of => first | k_is | kernel_rfl)
      (case c_need_row_of => first | k_is | kernel_rfl)
      (case k_need_row_of => first | k_is | kernel_rfl)
      (case a_row_of => first | k_is | kernel_rfl)
      (case l_row_of => first | k_is | kernel_rfl)
      (case c_row_of => first | k_is | kernel_rfl)
      (case k_row_of => first | k_is | kernel_rfl)
      (case a_home_of => first | k_is | kernel_rfl)
      (case l_home_of => first | k_is | kernel_rfl)
      (case c_home_of => first | k_is | kernel_rfl)
      (case k_home_of => first | k_is | kernel_rfl)
      (case a_place_in => first | k_is | kernel_rfl)
      (case l_place_in => first | k_is | kernel_rfl)
      (case c_place_in => first | k_is | kernel_rfl)
      (case k_place_in => first | k_is | kernel_rfl)
      (case a_together => first | k_is | kernel_rfl)
      (case l_together => first | k_is | kernel_rfl)
      (case c_together => first | k_is | kernel_rfl)
      (case k_together => first | k_is | kernel_rfl)
      (case a_need_great => first | k_is | kernel_rfl)
      (case l_need_great => first | k_is | kernel_rfl)
      (case c_need_great => first | k_is | kernel_rfl)
      (case k_need_great => first | k_is | kernel_rfl)
      (case a_powered => first | k_is | kernel_rfl)
      (case l_powered => first | k_is | kernel_rfl)
      (case c_powered => first | k_is | kernel_rfl)
      (case k_powered => first | k_is | kernel_rfl)
      (case a_prime_powers => first | k_is | kernel_rfl)
      (case l_prime_powers => first | k_is | kernel_rfl)
      (case c_prime_powers => first | k_is | kernel_rfl)
      (case k_prime_powers => first | k_is | kernel_rfl)
      (case a_divided => first | k_is | kernel_rfl)
      (case l_divided => first | k_is | kernel_rfl)
      (case c_divided => first | k_is | kernel_rfl)
      (case k_divided => first | k_is | kernel_rfl)
      (case a_squares => first | k_is | kernel_rfl)
      (case l_squares => first | k_is | kernel_rfl)
      (case c_squares => first | k_is | kernel_rfl)
      (case k_squares => first | k_is | kernel_rfl)
      (case a_met_by_power => first | k_is | kernel_rfl)
      (case l_met_by_power => first | k_is | kernel_rfl)
      (case c_met_by_power => first | k_is | kernel_rfl)
      (case k_met_by_power => first | k_is | kernel_rfl)
      (case a_cells_met => first | k_is | kernel_rfl)
      (case l_cells_met => first | k_is | kernel_rfl)
      (case c_cells_met => first | k_is | kernel_rfl)
      (case k_cells_met => first | k_is | kernel_rfl)
      (case a_meets_all => first | k_is | kernel_rfl)
      (case l_meets_all => first | k_is | kernel_rfl)
      (case c_meets_all => first | k_is | kernel_rfl)
      (case k_meets_all => first | k_is | kernel_rfl)
      (case a_first_short => first | k_is | kernel_rfl)
      (case l_first_short => first | k_is | kernel_rfl)
      (case c_first_short => first | k_is | kernel_rfl)
      (case k_first_short => first | k_is | kernel_rfl)
      (case a_unlike_rows => first | k_is | kernel_rfl)
      (case l_unlike_rows => first | k_is | kernel_rfl)
      (case c_unlike_rows => first | k_is | kernel_rfl)
      (case k_unlike_rows => first | k_is | kernel_rfl)
      (case a_number_with => first | k_is | kernel_rfl)
      (case l_number_with => first | k_is | kernel_rfl)
      (case c_number_with => first | k_is | kernel_rfl)
      (case k_number_with => first | k_is | kernel_rfl)
      (case a__law_turned => first | k_is | kernel_rfl)
      (case l__law_turned => first | k_is | kernel_rfl)
      (case c__law_turned => first | k_is | kernel_rfl)
      (case k__law_turned => first | k_is | kernel_rfl)
      (case a__law_beside => first | k_is | kernel_rfl)
      (case l__law_beside => first | k_is | kernel_rfl)
      (case c__law_beside => first | k_is | kernel_rfl)
      (case k__law_beside => first | k_is | kernel_rfl)
      (case a__law_begun => first | k_is | kernel_rfl)
      (case l__law_begun => first | k_is | kernel_rfl)
      (case c__law_begun => first | k_is | kernel_rfl)
      (case k__law_begun => first | k_is | kernel_rfl)
    (case a => k_is)
    (case l => k_is)
    (case k1 => k_is)
    (case k2 => k_is)
