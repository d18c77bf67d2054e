import PyProof.Rows.All
import Wide.All
import OpenK.AllK
import Wide.FinOn
import HandS.ForMost
import HandS.ForExc
import HandS.More
import HandS.RevRange
import HandS.IsInst
import HandS.Zip
import KE.DataEq
import PySem.Challenge.RW_signright_k04_one_within_another
set_option Elab.async false
set_option linter.all false
set_option maxRecDepth 100000
set_option maxHeartbeats 4000000
/-! Fx: a functional reading over plain data, over the hand layer. -/
namespace Fx
open PySem L2
/-! ### results -/
inductive Rs (α : Type) where
  | bad
  | ok (a : α)
  | er (c : Nat) (n : Option Int)
def Rs.bind {α β : Type} : Rs α → (α → Rs β) → Rs β
  | .bad, _ => .bad
  | .ok a, k => k a
  | .er c n, _ => .er c n
def Rs.ofO {α : Type} : Option α → Rs α
  | none => .bad
  | some a => .ok a
@[simp] theorem bind_bad {α β : Type} (k : α → Rs β) : Rs.bind .bad k = .bad := rfl
@[simp] theorem bind_ok {α β : Type} (a : α) (k : α → Rs β) : Rs.bind (.ok a) k = k a := rfl
@[simp] theorem bind_er {α β : Type} (c : Nat) (n : Option Int) (k : α → Rs β) : Rs.bind (.er c n) k = .er c n := rfl
@[simp] theorem ofO_some {α : Type} (a : α) : Rs.ofO (some a) = .ok a := rfl
@[simp] theorem ofO_none {α : Type} : Rs.ofO (none : Option α) = .bad := rfl
/-! ### data -/
inductive D where
  | non | bl (b : Bool) | int (i : Int) | str (x : Str) | lst (ds : List D) | tup (ds : List D)
  | scr (ns : List Int) | obj (c : Nat) (ns : List Str) (ds : List D) | exc (c : Nat) (n : Option Int)
instance : Inhabited D := ⟨.non⟩
structure G where
  K : PySem.W.Frag
  cl : Nat → Addr
mutual
def Rep (g : G) (H : Hp) : D → V → Prop
  | .non, v => v = .non
  | .bl b, v => v = .bl b
  | .int i, v => v = .int i
  | .str x, v => v = .str x
  | .lst ds, v => ∃ a vs, v = .ref a ∧ H a = some (.lst vs) ∧ RepL g H ds vs
  | .tup ds, v => ∃ a vs, v = .ref a ∧ SqT g.K H a vs ∧ RepL g H ds vs
  | .scr ns, v => ∃ a, v = .ref a ∧ SqL g.K H a (ns.map V.int)
  | .obj c ns ds, v => ∃ a dx vs, v = .ref a ∧ H a = some (.ins (g.cl c) dx (ns.zip vs)) ∧ RepL g H ds vs
  | .exc _ _, _ => False
def RepL (g : G) (H : Hp) : List D → List V → Prop
  | [], vs => vs = []
  | d :: ds, vs => ∃ v r, vs = v :: r ∧ Rep g H d v ∧ RepL g H ds r
end
theorem sqT_same {K : PySem.W.Frag} {H H' : Hp} {a : Addr} {xs : List V} (e : Same H H') (h : SqT K H a xs) : SqT K H' a xs := by
  rcases h with (h | ⟨o, h⟩) | h
  · exact .inl (.inl (e _ _ h))
  · exact .inl (.inr ⟨o, e _ _ h⟩)
  · exact .inr h
mutual
theorem Rep.mono {g : G} {H H' : Hp} (e : Same H H') : ∀ (d : D) (v : V), Rep g H d v → Rep g H' d v
  | .non, _, h => h
  | .bl _, _, h => h
  | .int _, _, h => h
  | .str _, _, h => h
  | .lst ds, _, ⟨a, vs, h1, h2, h3⟩ => ⟨a, vs, h1, e _ _ h2, RepL.mono e ds vs h3⟩
  | .tup ds, _, ⟨a, vs, h1, h2, h3⟩ => ⟨a, vs, h1, sqT_same e h2, RepL.mono e ds vs h3⟩
  | .scr ns, _, ⟨a, h1, h2⟩ => ⟨a, h1, e.seq h2⟩
  | .obj c ns ds, _, ⟨a, dx, vs, h1, h2, h3⟩ => ⟨a, dx, vs, h1, e _ _ h2, RepL.mono e ds vs h3⟩
  | .exc _ _, _, h => h
theorem RepL.mono {g : G} {H H' : Hp} (e : Same H H') : ∀ (ds : List D) (vs : List V), RepL g H ds vs → RepL g H' ds vs
  | [], _, h => h
  | d :: ds, _, ⟨v, r, h1, h2, h3⟩ => ⟨v, r, h1, Rep.mono e d v h2, RepL.mono e ds r h3⟩
end
theorem RepL.len {g : G} {H : Hp} : ∀ {ds : List D} {vs : List V}, RepL g H ds vs → ds.length = vs.length
  | [], _, h => by
    have h : _ = [] := h
    rw [h]
    rfl
  | d :: ds, _, ⟨v, r, h1, _, h3⟩ => by
    rw [h1, List.length_cons, List.length_cons, RepL.len h3]
theorem RepL.get {g : G} {H : Hp} : ∀ {ds : List D} {vs : List V} {i : Nat} {d : D}, RepL g H ds vs → ds[i]? = some d → ∃ v, vs[i]? = some v ∧ Rep g H d v
  | [], _, _, _, _, e => by simp at e
  | d :: ds, _, 0, x, ⟨v, r, h1, h2, h3⟩, e => by
    have e : d = x := by simpa using e
    subst e
    exact ⟨v, by rw [h1]; rfl, h2⟩
  | d :: ds, _, i + 1, x, ⟨v, r, h1, h2, h3⟩, e => by
    have e : ds[i]? = some x := by simpa using e
    obtain ⟨u, q1, q2⟩ := RepL.get h3 e
    exact ⟨u, by rw [h1]; simpa using q1, q2⟩
theorem RepL.get' {g : G} {H : Hp} {ds : List D} {vs : List V} {i : Nat} {v : V} (h : RepL g H ds vs) (e : vs[i]? = some v) : ∃ d, ds[i]? = some d ∧ Rep g H d v := by
  have hi : i < ds.length := by rw [h.len]; exact (List.getElem?_eq_some_iff.mp e).1
  obtain ⟨u, q1, q2⟩ := h.get (List.getElem?_eq_getElem hi)
  rw [e] at q1
  cases q1
  exact ⟨_, List.getElem?_eq_getElem hi, q2⟩
theorem RepL.append {g : G} {H : Hp} : ∀ {ds es : List D} {vs ws : List V}, RepL g H ds vs → RepL g H es ws → RepL g H (ds ++ es) (vs ++ ws)
  | [], es, _, ws, h, h' => by
    have h : _ = [] := h
    rw [h]
    exact h'
  | d :: ds, es, _, ws, ⟨v, r, h1, h2, h3⟩, h' => by
    rw [h1]
    exact ⟨v, r ++ ws, rfl, h2, RepL.append h3 h'⟩
theorem RepL.one {g : G} {H : Hp} {d : D} {v : V} (h : Rep g H d v) : RepL g H [d] [v] := ⟨v, [], rfl, h, rfl⟩
theorem RepL.take {g : G} {H : Hp} : ∀ {ds : List D} {vs : List V} (n : Nat), RepL g H ds vs → RepL g H (ds.take n) (vs.take n)
  | _, _, 0, _ => by simp [RepL]
  | [], _, n + 1, h => by
    have h : _ = [] := h
    rw [h]
    rfl
  | d :: ds, _, n + 1, ⟨v, r, h1, h2, h3⟩ => by
    rw [h1]
    exact ⟨v, r.take n, rfl, h2, RepL.take n h3⟩
theorem RepL.drop {g : G} {H : Hp} : ∀ {ds : List D} {vs : List V} (n : Nat), RepL g H ds vs → RepL g H (ds.drop n) (vs.drop n)
  | _, _, 0, h => h
  | [], _, n + 1, h => by
    have h : _ = [] := h
    rw [h]
    rfl
  | d :: ds, _, n + 1, ⟨v, r, h1, h2, h3⟩ => by
    rw [h1]
    exact RepL.drop n h3
theorem RepL.set {g : G} {H : Hp} {d : D} {v : V} (hd : Rep g H d v) : ∀ {ds : List D} {vs : List V} (i : Nat), RepL g H ds vs → RepL g H (ds.set i d) (vs.set i v)
  | [], _, _, h => by
    have h : _ = [] := h
    rw [h]
    rfl
  | x :: ds, _, 0, ⟨u, r, h1, h2, h3⟩ => by
    rw [h1]
    exact ⟨v, r, rfl, hd, h3⟩
  | x :: ds, _, i + 1, ⟨u, r, h1, h2, h3⟩ => by
    rw [h1]
    exact ⟨u, r.set i v, rfl, h2, RepL.set hd i h3⟩
theorem RepL.reverse {g : G} {H : Hp} : ∀ {ds : List D} {vs : List V}, RepL g H ds vs → RepL g H ds.reverse vs.reverse
  | [], _, h => by
    have h : _ = [] := h
    rw [h]
    rfl
  | d :: ds, _, ⟨v, r, h1, h2, h3⟩ => by
    rw [h1, List.reverse_cons, List.reverse_cons]
    exact (RepL.reverse h3).append (.one h2)
theorem RepL.ints {g : G} {H : Hp} : ∀ (ns : List Int), RepL g H (ns.map D.int) (ns.map V.int)
  | [] => rfl
  | n :: ns => ⟨.int n, ns.map V.int, rfl, rfl, RepL.ints ns⟩
theorem RepL.of_ints {g : G} {H : Hp} : ∀ {ns : List Int} {vs : List V}, RepL g H (ns.map D.int) vs → vs = ns.map V.int
  | [], _, h => h
  | n :: ns, _, ⟨v, r, h1, h2, h3⟩ => by
    have h2 : v = .int n := h2
    rw [h1, h2, RepL.of_ints h3]
    rfl
/-! ### heaps that grow -/
structure Lt (Hs H Hs' H' : Hp) : Prop where
  ss : Same Hs Hs'
  sh : Same Hs' H'
  hh : Same H H'
  np : ∀ a o, H a = some o → Hs a = none → Hs' a = none
theorem Lt.refl {Hs H : Hp} (h : Same Hs H) : Lt Hs H Hs H := ⟨Same.refl _, h, Same.refl _, fun _ _ _ h => h⟩
theorem Lt.trans {Hs H Hs1 H1 Hs2 H2 : Hp} (a : Lt Hs H Hs1 H1) (b : Lt Hs1 H1 Hs2 H2) : Lt Hs H Hs2 H2 :=
  ⟨a.ss.trans b.ss, b.sh, a.hh.trans b.hh, fun x o h n => b.np x o (a.hh x o h) (a.np x o h n)⟩
theorem same_upd {H : Hp} {p : Addr} {o : HO} (h : H p = none) : Same H (upd H p o) := fun b x e => by
  rw [upd_ne (ne_of_none e h)]
  exact e
theorem same_upd2 {Hs H : Hp} {p : Addr} {o : HO} (e : Same Hs H) (h : H p = none) : Same (upd Hs p o) (upd H p o) := fun b x q => by
  by_cases hb : b = p
  · subst hb
    rw [upd_same] at q ⊢
    exact q
  · rw [upd_ne hb] at q ⊢
    exact e _ _ q
/-- a new object, for all to see -/
theorem Lt.new {Hs H : Hp} {p : Addr} {o : HO} (e : Same Hs H) (h : H p = none) : Lt Hs H (upd Hs p o) (upd H p o) :=
  ⟨same_upd (e.free h), same_upd2 e h, same_upd h, fun a x q n => by
    rw [upd_ne (ne_of_none q h)]
    exact n⟩
/-- a new object, one's own -/
theorem Lt.priv {Hs H : Hp} {p : Addr} {o : HO} (e : Same Hs H) (h : H p = none) : Lt Hs H Hs (upd H p o) :=
  ⟨Same.refl _, e.trans (same_upd h), same_upd h, fun a x q n => n⟩
/-! ### what stands in the slots -/
inductive Sl where
  | un
  | pin
  | val (d : D)
  | own (ds : List D)
instance : Inhabited Sl := ⟨.un⟩
abbrev S := List Sl
structure Bs where
  b1 : Hp
  b2 : Hp
  s0 : L2.St
structure Good (g : G) (B : Bs) (st : S) (σ : L2.St) (Hs H : Hp) : Prop where
  lt : Lt B.b1 B.b2 Hs H
  len : st.length = σ.length
  val : ∀ (i : Nat) (d : D), st[i]? = some (.val d) → ∃ v, σ[i]? = some (some v) ∧ Rep g Hs d v
  own : ∀ (i : Nat) (ds : List D), st[i]? = some (.own ds) → ∃ l vs, σ[i]? = some (some (.ref l)) ∧ Hs l = none ∧ B.b2 l = none ∧ H l = some (.lst vs) ∧ RepL g Hs ds vs
  pin : ∀ (i : Nat), st[i]? = some .pin → σ[i]? = B.s0[i]?
  dis : ∀ (i j : Nat) (ds es : List D) (l : Addr), st[i]? = some (.own ds) → st[j]? = some (.own es) → σ[i]? = some (some (.ref l)) → σ[j]? = some (some (.ref l)) → i = j
section
variable {g : G} {B : Bs} {st : S} {σ : L2.St} {Hs H Hs' H' : Hp}
theorem Good.sh (h : Good g B st σ Hs H) : Same Hs H := h.lt.sh
theorem Good.later (h : Good g B st σ Hs H) (l : Lt Hs H Hs' H') : Good g B st σ Hs' H' where
  lt := h.lt.trans l
  len := h.len
  val := fun i d e => by
    obtain ⟨v, h1, h2⟩ := h.val i d e
    exact ⟨v, h1, Rep.mono l.ss _ _ h2⟩
  own := fun i ds e => by
    obtain ⟨a, vs, h1, h2, h3, h4, h5⟩ := h.own i ds e
    exact ⟨a, vs, h1, l.np _ _ h4 h2, h3, l.hh _ _ h4, RepL.mono l.ss _ _ h5⟩
  pin := h.pin
  dis := h.dis
theorem getElem?_set_eq {α : Type} {l : List α} {i j : Nat} {x y : α} (h : (l.set i x)[j]? = some y) : (i = j ∧ y = x ∧ i < l.length) ∨ (i ≠ j ∧ l[j]? = some y) := by
  by_cases e : i = j
  · subst e
    by_cases hl : i < l.length
    · rw [List.getElem?_set_self hl] at h
      exact .inl ⟨rfl, (Option.some.inj h).symm, hl⟩
    · rw [List.getElem?_eq_none (by rw [List.length_set]; omega)] at h
      cases h
  · rw [List.getElem?_set_ne e] at h
    exact .inr ⟨e, h⟩
theorem set_same {α : Type} {l : List α} {i : Nat} {x : α} (h : i < l.length) : (l.set i x)[i]? = some x := List.getElem?_set_self h
theorem set_other {α : Type} {l : List α} {i j : Nat} {x : α} (h : i ≠ j) : (l.set i x)[j]? = l[j]? := List.getElem?_set_ne h
/-- a slot is given data -/
theorem Good.set (h : Good g B st σ Hs H) {i : Nat} {d : D} {v : V} (r : Rep g Hs d v) : Good g B (st.set i (.val d)) (σ.set i (some v)) Hs H where
  lt := h.lt
  len := by rw [List.length_set, List.length_set, h.len]
  val := fun j e q => by
    rcases getElem?_set_eq q with ⟨rfl, e1, hl⟩ | ⟨ne, q⟩
    · cases e1
      exact ⟨v, set_same (by rw [← h.len]; exact hl), r⟩
    · obtain ⟨u, h1, h2⟩ := h.val j e q
      exact ⟨u, by rw [set_other ne]; exact h1, h2⟩
  own := fun j ds q => by
    rcases getElem?_set_eq q with ⟨rfl, e1, hl⟩ | ⟨ne, q⟩
    · cases e1
    · obtain ⟨l, vs, h1, h2⟩ := h.own j ds q
      exact ⟨l, vs, by rw [set_other ne]; exact h1, h2⟩
  pin := fun j q => by
    rcases getElem?_set_eq q with ⟨rfl, e1, hl⟩ | ⟨ne, q⟩
    · cases e1
    · rw [set_other ne]
      exact h.pin j q
  dis := fun j k ds es l q1 q2 s1 s2 => by
    rcases getElem?_set_eq q1 with ⟨rfl, e1, hl⟩ | ⟨ne1, q1⟩
    · cases e1
    · rcases getElem?_set_eq q2 with ⟨rfl, e1, hl⟩ | ⟨ne2, q2⟩
      · cases e1
      · rw [set_other ne1] at s1
        rw [set_other ne2] at s2
        exact h.dis j k ds es l q1 q2 s1 s2
/-- a slot is given a new list -/
theorem Good.setOwn (h : Good g B st σ Hs H) {i : Nat} {ds : List D} {p : Addr} {vs : List V} (n1 : Hs p = none) (n2 : B.b2 p = none) (hp : H p = some (.lst vs)) (r : RepL g Hs ds vs)
    (na : ∀ (j : Nat) (es : List D) (l : Addr), st[j]? = some (.own es) → σ[j]? = some (some (.ref l)) → l ≠ p) : Good g B (st.set i (.own ds)) (σ.set i (some (.ref p))) Hs H where
  lt := h.lt
  len := by rw [List.length_set, List.length_set, h.len]
  val := fun j e q => by
    rcases getElem?_set_eq q with ⟨rfl, e1, hl⟩ | ⟨ne, q⟩
    · cases e1
    · obtain ⟨u, h1, h2⟩ := h.val j e q
      exact ⟨u, by rw [set_other ne]; exact h1, h2⟩
  own := fun j ds q => by
    rcases getElem?_set_eq q with ⟨rfl, e1, hl⟩ | ⟨ne, q⟩
    · cases e1
      exact ⟨p, vs, set_same (by rw [← h.len]; exact hl), n1, n2, hp, r⟩
    · obtain ⟨l, ws, h1, h2⟩ := h.own j ds q
      exact ⟨l, ws, by rw [set_other ne]; exact h1, h2⟩
  pin := fun j q => by
    rcases getElem?_set_eq q with ⟨rfl, e1, hl⟩ | ⟨ne, q⟩
    · cases e1
    · rw [set_other ne]
      exact h.pin j q
  dis := fun j k es fs l q1 q2 s1 s2 => by
    rcases getElem?_set_eq q1 with ⟨rfl, e1, hl⟩ | ⟨ne1, q1⟩
    · rcases getElem?_set_eq q2 with ⟨rfl, e2, hl2⟩ | ⟨ne2, q2⟩
      · rfl
      · rw [set_same (by rw [← h.len]; exact hl)] at s1
        rw [set_other ne2] at s2
        cases s1
        exact absurd rfl (na k fs p q2 s2)
    · rcases getElem?_set_eq q2 with ⟨rfl, e2, hl2⟩ | ⟨ne2, q2⟩
      · rw [set_same (by rw [← h.len]; exact hl2)] at s2
        rw [set_other ne1] at s1
        cases s2
        exact absurd rfl (na j es p q1 s1)
      · rw [set_other ne1] at s1
        rw [set_other ne2] at s2
        exact h.dis j k es fs l q1 q2 s1 s2
/-- an own list is changed -/
theorem Good.write (h : Good g B st σ Hs H) {i : Nat} {ds es : List D} {l : Addr} {vs ws : List V} (hi : st[i]? = some (.own ds)) (hs : σ[i]? = some (some (.ref l))) (hl : Hs l = none) (hB : B.b2 l = none) (hH : H l = some (.lst vs))
    (r : RepL g Hs es ws) : Good g B (st.set i (.own es)) σ Hs (upd H l (.lst ws)) where
  lt := ⟨h.lt.ss, fun a o e => by
      have ne : a ≠ l := fun z => by
        rw [z, hl] at e
        cases e
      rw [upd_ne ne]
      exact h.lt.sh a o e, fun a o e => by
      have ne : a ≠ l := fun z => by
        rw [z, hB] at e
        cases e
      rw [upd_ne ne]
      exact h.lt.hh a o e, h.lt.np⟩
  len := by rw [List.length_set, h.len]
  val := fun j e q => by
    rcases getElem?_set_eq q with ⟨rfl, e1, hl⟩ | ⟨ne, q⟩
    · cases e1
    · exact h.val j e q
  own := fun j fs q => by
    rcases getElem?_set_eq q with ⟨rfl, e1, hl'⟩ | ⟨ne, q⟩
    · cases e1
      exact ⟨l, ws, hs, hl, hB, upd_same, r⟩
    · obtain ⟨m, us, h1, h2, h3, h4, h5⟩ := h.own j fs q
      have nm : m ≠ l := fun z => by
        subst z
        exact ne (h.dis i j ds fs m hi q hs h1)
      exact ⟨m, us, h1, h2, h3, by rw [upd_ne nm]; exact h4, h5⟩
  pin := fun j q => by
    rcases getElem?_set_eq q with ⟨rfl, e1, hl⟩ | ⟨ne, q⟩
    · cases e1
    · exact h.pin j q
  dis := fun j k fs gs m q1 q2 s1 s2 => by
    have o1 : ∃ fs', st[j]? = some (.own fs') := by
      rcases getElem?_set_eq q1 with ⟨rfl, _, _⟩ | ⟨_, q⟩
      · exact ⟨_, hi⟩
      · exact ⟨_, q⟩
    have o2 : ∃ fs', st[k]? = some (.own fs') := by
      rcases getElem?_set_eq q2 with ⟨rfl, _, _⟩ | ⟨_, q⟩
      · exact ⟨_, hi⟩
      · exact ⟨_, q⟩
    obtain ⟨_, o1⟩ := o1
    obtain ⟨_, o2⟩ := o2
    exact h.dis j k _ _ m o1 o2 s1 s2
/-- an own list is given up to all -/
theorem Good.freeze (h : Good g B st σ Hs H) {i : Nat} {ds : List D} (hi : st[i]? = some (.own ds)) : ∃ Hs', Same Hs Hs' ∧ Good g B (st.set i (.val (.lst ds))) σ Hs' H := by
  obtain ⟨l, vs, h1, h2, h3, h4, h5⟩ := h.own i ds hi
  have ss : Same Hs (upd Hs l (.lst vs)) := same_upd h2
  refine ⟨upd Hs l (.lst vs), ss, ⟨h.lt.ss.trans ss, fun a o e => ?_, h.lt.hh, fun a o e n => ?_⟩, ?_, fun j e q => ?_, fun j es q => ?_, fun j q => ?_, fun j k es fs m q1 q2 s1 s2 => ?_⟩
  · by_cases z : a = l
    · subst z
      rw [upd_same] at e
      cases e
      exact h4
    · rw [upd_ne z] at e
      exact h.lt.sh a o e
  · have z : a ≠ l := fun z => by
      rw [z, h3] at e
      cases e
    rw [upd_ne z]
    exact h.lt.np a o e n
  · rw [List.length_set, h.len]
  · rcases getElem?_set_eq q with ⟨rfl, e1, hl⟩ | ⟨ne, q⟩
    · cases e1
      exact ⟨.ref l, h1, l, vs, rfl, upd_same, RepL.mono ss _ _ h5⟩
    · obtain ⟨u, q1, q2⟩ := h.val j e q
      exact ⟨u, q1, Rep.mono ss _ _ q2⟩
  · rcases getElem?_set_eq q with ⟨rfl, e1, hl⟩ | ⟨ne, q⟩
    · cases e1
    · obtain ⟨m, us, q1, q2, q3, q4, q5⟩ := h.own j es q
      have nm : m ≠ l := fun z => by
        subst z
        exact ne (h.dis i j ds es m hi q h1 q1)
      exact ⟨m, us, q1, by rw [upd_ne nm]; exact q2, q3, q4, RepL.mono ss _ _ q5⟩
  · rcases getElem?_set_eq q with ⟨rfl, e1, hl⟩ | ⟨ne, q⟩
    · cases e1
    · exact h.pin j q
  · rcases getElem?_set_eq q1 with ⟨rfl, e1, _⟩ | ⟨_, q1⟩
    · cases e1
    · rcases getElem?_set_eq q2 with ⟨rfl, e1, _⟩ | ⟨_, q2⟩
      · cases e1
      · exact h.dis j k _ _ m q1 q2 s1 s2
end
theorem Good.start {g : G} {Hs H : Hp} (e : Same Hs H) {ds : List D} {vs : List V} (r : RepL g Hs ds vs) (N : List Str) : Good g ⟨Hs, H, []⟩ (ds.map Sl.val ++ List.replicate (N.length - ds.length) Sl.un) (start N vs) Hs H where
  lt := Lt.refl e
  len := by
    unfold L2.start
    rw [List.length_append, List.length_append, List.length_map, List.length_map, List.length_replicate, List.length_replicate, r.len]
  val := fun i d q => by
    by_cases hi : i < ds.length
    · rw [List.getElem?_append_left (by rw [List.length_map]; exact hi), List.getElem?_map] at q
      rw [List.getElem?_eq_getElem hi] at q
      have q : ds[i] = d := by
        have := Option.some.inj q
        injection this
      obtain ⟨v, h1, h2⟩ := r.get (List.getElem?_eq_getElem hi)
      refine ⟨v, ?_, q ▸ h2⟩
      unfold L2.start
      have hv : i < vs.length := by rw [← r.len]; exact hi
      rw [List.getElem?_append_left (by rw [List.length_map]; exact hv), List.getElem?_map, h1]
      rfl
    · rw [List.getElem?_append_right (by rw [List.length_map]; omega), List.getElem?_replicate] at q
      split at q <;> cases q
  own := fun i es q => by
    by_cases hi : i < ds.length
    · rw [List.getElem?_append_left (by rw [List.length_map]; exact hi), List.getElem?_map] at q
      rw [List.getElem?_eq_getElem hi] at q
      cases q
    · rw [List.getElem?_append_right (by rw [List.length_map]; omega), List.getElem?_replicate] at q
      split at q <;> cases q
  pin := fun i q => by
    by_cases hi : i < ds.length
    · rw [List.getElem?_append_left (by rw [List.length_map]; exact hi), List.getElem?_map] at q
      rw [List.getElem?_eq_getElem hi] at q
      cases q
    · rw [List.getElem?_append_right (by rw [List.length_map]; omega), List.getElem?_replicate] at q
      split at q <;> cases q
  dis := fun i j es fs l q _ _ _ => by
    by_cases hi : i < ds.length
    · rw [List.getElem?_append_left (by rw [List.length_map]; exact hi), List.getElem?_map] at q
      rw [List.getElem?_eq_getElem hi] at q
      cases q
    · rw [List.getElem?_append_right (by rw [List.length_map]; omega), List.getElem?_replicate] at q
      split at q <;> cases q
def startS (N : List Str) (ds : List D) : S := ds.map Sl.val ++ List.replicate (N.length - ds.length) Sl.un
/-! ### readings made of functions -/
def XD (n : Option Int) (d' : Option Addr) (H : Hp) : Prop := match n with
  | none => d' = none
  | some k => ∃ dd, d' = some dd ∧ H dd = some (.xd [(("at" : Str), .int k)])
def Rz (g : G) (W : WX) (σ : L2.St) (Hs H : Hp) {α : Type} (r : Rs α) (k : α → Prop) : Prop := match r with
  | .bad => False
  | .ok a => k a
  | .er c n => ∀ d' Hs' H', Lt Hs H Hs' H' → XD n d' H' → W (.ref (g.cl c)) d' σ H'
section
variable {g : G} {W : WX} {σ : L2.St} {Hs H Hs' H' : Hp}
theorem Rz.bind {α β : Type} {r : Rs α} {f : α → Rs β} {k : β → Prop} (h : Rz g W σ Hs H (r.bind f) k) : Rz g W σ Hs H r fun a => Rz g W σ Hs H (f a) k := by
  cases r <;> exact h
theorem Rz.imp {α : Type} {r : Rs α} {k k' : α → Prop} (h : Rz g W σ Hs H r k) (i : ∀ a, k a → k' a) : Rz g W σ Hs H r k' := by
  cases r with
  | bad => exact h
  | ok a => exact i a h
  | er c n => exact h
theorem Rz.later {α : Type} {r : Rs α} {k k' : α → Prop} (h : Rz g W σ Hs H r k) (l : Lt Hs H Hs' H') (i : ∀ a, r = .ok a → k a → k' a) : Rz g W σ Hs' H' r k' := by
  cases r with
  | bad => exact h
  | ok a => exact i a rfl h
  | er c n => exact fun d' H1 H2 l2 => h d' H1 H2 (l.trans l2)
theorem Rz.ofO {α : Type} {o : Option α} {k : α → Prop} (h : Rz g W σ Hs H (Rs.ofO o) k) : ∃ a, o = some a ∧ k a := by
  cases o with
  | none => exact h.elim
  | some a => exact ⟨a, rfl, h⟩
end
/-- an expression | a test | arguments | a new list | a list read on the spot -/
def tF (g : G) (W : WX) (f : S → Rs D) : TE := fun σ H Q => ∃ B st Hs, Good g B st σ Hs H ∧ Rz g W σ Hs H (f st) fun d => ∀ v Hs' H', Lt Hs H Hs' H' → Rep g Hs' d v → Q v H'
def tT (g : G) (W : WX) (f : S → Rs Bool) : TT := fun σ H Q => ∃ B st Hs, Good g B st σ Hs H ∧ Rz g W σ Hs H (f st) fun b => ∀ Hs' H', Lt Hs H Hs' H' → Q b H'
def tA (g : G) (W : WX) (f : S → Rs (List D)) : TA := fun σ H Q => ∃ B st Hs, Good g B st σ Hs H ∧ Rz g W σ Hs H (f st) fun ds => ∀ vs Hs' H', Lt Hs H Hs' H' → RepL g Hs' ds vs → Q vs H'
def tN (g : G) (W : WX) (f : S → Rs (List D)) : TE := fun σ H Q => ∃ B st Hs, Good g B st σ Hs H ∧ Rz g W σ Hs H (f st) fun ds => ∀ p vs Hs' H', H p = none → Lt Hs H Hs' H' → Hs' p = none → H' p = some (.lst vs) → RepL g Hs' ds vs → Q (.ref p) H'
/-- what stands as a list or a tuple, for reading alone; it stays while Lt grows -/
def RdL (g : G) (Hs H : Hp) (ds : List D) (v : V) : Prop := ∀ Hs' H', Lt Hs H Hs' H' → ∃ a vs, v = .ref a ∧ H' a = some (.lst vs) ∧ RepL g Hs' ds vs
def RdT (g : G) (Hs H : Hp) (ds : List D) (v : V) : Prop := ∀ Hs' H', Lt Hs H Hs' H' → ∃ a vs, v = .ref a ∧ SqT g.K H' a vs ∧ RepL g Hs' ds vs
/-- read on the spot: data, or an own list -/
def RepR (g : G) (Hs H : Hp) : D → V → Prop
  | .lst ds, v => RdL g Hs H ds v
  | d, v => Rep g Hs d v
theorem RepR.later {g : G} {Hs H Hs' H' : Hp} {d : D} {v : V} (l : Lt Hs H Hs' H') (h : RepR g Hs H d v) : RepR g Hs' H' d v := by
  cases d with
  | lst ds => exact fun Hs2 H2 l2 => h Hs2 H2 (l.trans l2)
  | _ => exact Rep.mono l.ss _ _ h
theorem RepR.of {g : G} {Hs H : Hp} {d : D} {v : V} (h : Rep g Hs d v) : RepR g Hs H d v := by
  cases d with
  | lst ds =>
    obtain ⟨a, vs, h1, h2, h3⟩ := h
    exact fun Hs' H' l => ⟨a, vs, h1, l.sh _ _ (l.ss _ _ h2), RepL.mono l.ss _ _ h3⟩
  | _ => exact h
def tR (g : G) (W : WX) (f : S → Rs D) : TE := fun σ H Q => ∃ B st Hs, Good g B st σ Hs H ∧ Rz g W σ Hs H (f st) fun d => ∀ v Hs' H', Lt Hs H Hs' H' → RepR g Hs' H' d v → Q v H'
section
variable {X : Cx} {g : G} {W : WX} {e : Expr}
theorem PE.imp {t t' : TE} (h : PE X e t) (i : ∀ σ H Q, t' σ H Q → t σ H Q) : PE X e t' := ⟨fun pins s σ H Q I q => h.run pins s σ H Q I (i σ H Q q)⟩
theorem PT.imp {t t' : TT} (h : PT X e t) (i : ∀ σ H Q, t' σ H Q → t σ H Q) : PT X e t' := ⟨fun pins s σ H Q I q => h.run pins s σ H Q I (i σ H Q q)⟩
theorem PW.imp {t t' : TT} (h : PW X e t) (i : ∀ σ H Q, t' σ H Q → t σ H Q) : PW X e t' := ⟨fun w pins s σ H Q I q => h.run w pins s σ H Q I (i σ H Q q)⟩
theorem PA.imp {es : List Expr} {t t' : TA} (h : PA X es t) (i : ∀ σ H Q, t' σ H Q → t σ H Q) : PA X es t' := ⟨fun pos pins s σ H Q I q => h.run pos pins s σ H Q I (i σ H Q q)⟩
theorem PS.imp {st : Stmt} {t t' : TS} (h : PS X st t) (i : ∀ Dn σ H, t' Dn σ H → t Dn σ H) : PS X st t' := ⟨fun pins s σ H Dn I q => h.run pins s σ H Dn I (i Dn σ H q)⟩
theorem PSs.imp {st : List Stmt} {t t' : TS} (h : PSs X st t) (i : ∀ Dn σ H, t' Dn σ H → t Dn σ H) : PSs X st t' := ⟨fun pins s σ H Dn I q => h.run pins s σ H Dn I (i Dn σ H q)⟩
theorem PI.imp {tg it : Expr} {t t' : TI} (h : PI X tg it t) (i : ∀ σ H R, t' σ H R → t σ H R) : PI X tg it t' := ⟨fun pins s σ H R I q => h.run pins s σ H R I (i σ H R q)⟩
theorem PG.imp {tg : Expr} {t t' : TG} (h : PG X tg t) (i : ∀ v σ H Q, t' v σ H Q → t v σ H Q) : PG X tg t' := ⟨fun pins s σ H v u Q I r q => h.run pins s σ H v u Q I r (i v σ H Q q)⟩
/-- a new list, frozen -/
theorem fe_new {f : S → Rs (List D)} (h : PE X e (tN g W f)) : PE X e (tF g W fun st => (f st).bind fun ds => .ok (.lst ds)) := PE.imp h fun σ H Q ⟨B, st, Hs, G, r⟩ => by
  refine ⟨B, st, Hs, G, (Rz.bind r).imp fun ds k p vs Hs' H' np l n1 hp hr => ?_⟩
  have ss : Same Hs' (upd Hs' p (.lst vs)) := same_upd n1
  refine k (.ref p) (upd Hs' p (.lst vs)) H' ⟨l.ss.trans ss, fun a o q => ?_, l.hh, fun a o q n => ?_⟩ ⟨p, vs, rfl, upd_same, RepL.mono ss _ _ hr⟩
  · by_cases z : a = p
    · subst z
      rw [upd_same] at q
      cases q
      exact hp
    · rw [upd_ne z] at q
      exact l.sh a o q
  · rw [upd_ne (ne_of_none q np)]
    exact l.np a o q n
theorem fr_of {f : S → Rs D} (h : PE X e (tF g W f)) : PE X e (tR g W f) := PE.imp h fun σ H Q ⟨B, st, Hs, G, r⟩ =>
  ⟨B, st, Hs, G, r.imp fun d k v Hs' H' l q => k v Hs' H' l (RepR.of q)⟩
theorem fr_new {f : S → Rs (List D)} (h : PE X e (tN g W f)) : PE X e (tR g W fun st => (f st).bind fun ds => .ok (.lst ds)) := fr_of (fe_new h)
/-! ### expressions -/
def fVar (i : Nat) : S → Rs D := fun st => match st[i]? with
  | some (.val d) => .ok d
  | _ => .bad
theorem fe_var (i : Nat) {x : Str} {pos : Pos} (hN : X.N[i]? = some x := by rfl) (hv : Vis X.env.scope x := by first | exact Or.inl rfl | exact Or.inr (Or.inl rfl) | exact Or.inr (Or.inr rfl)) (hd : (x == ("__debug__" : Str)) = false := by decide)
    (hcd : (x == ("__classdict__" : Str)) = false := by decide) : PE X (.Name x pos) (tF g W (fVar i)) := PE.imp (pe_var hN hv hd hcd) fun σ H Q ⟨B, st, Hs, G, r⟩ => by
  unfold fVar at r
  split at r
  · rename_i d e
    obtain ⟨v, h1, h2⟩ := G.val i d e
    exact ⟨v, h1, r v Hs H (Lt.refl G.sh) h2⟩
  · exact r.elim
/-- a slot for reading alone -/
def fRead (i : Nat) : S → Rs D := fun st => match st[i]? with
  | some (.val d) => .ok d
  | some (.own ds) => .ok (.lst ds)
  | _ => .bad
theorem fr_var (i : Nat) {x : Str} {pos : Pos} (hN : X.N[i]? = some x := by rfl) (hv : Vis X.env.scope x := by first | exact Or.inl rfl | exact Or.inr (Or.inl rfl) | exact Or.inr (Or.inr rfl)) (hd : (x == ("__debug__" : Str)) = false := by decide)
    (hcd : (x == ("__classdict__" : Str)) = false := by decide) : PE X (.Name x pos) (tR g W (fRead i)) := PE.imp (pe_var hN hv hd hcd) fun σ H Q ⟨B, st, Hs, G, r⟩ => by
  unfold fRead at r
  split at r
  · rename_i d e
    obtain ⟨v, h1, h2⟩ := G.val i d e
    exact ⟨v, h1, r v Hs H (Lt.refl G.sh) (RepR.of h2)⟩
  · rename_i ds e
    obtain ⟨l, vs, h1, h2, h3, h4, h5⟩ := G.own i ds e
    exact ⟨.ref l, h1, r (.ref l) Hs H (Lt.refl G.sh) fun Hs' H' q => ⟨l, vs, rfl, q.hh _ _ h4, RepL.mono q.ss _ _ h5⟩⟩
  · exact r.elim
def fC (d : D) : S → Rs D := fun _ => .ok d
theorem fe_C {v : V} {d : D} (h : PE X e (tC v)) (r : ∀ H, Rep g H d v) : PE X e (tF g W (fC d)) := PE.imp h fun σ H Q ⟨B, st, Hs, G, k⟩ => k v Hs H (Lt.refl G.sh) (r Hs)
theorem fe_int {i : Int} {j : Nat} {pos : Pos} : PE X (.Constant (.int i) j pos) (tF g W (fC (.int i))) := fe_C pe_int fun _ => rfl
theorem fe_bl {b : Bool} {j : Nat} {pos : Pos} : PE X (.Constant (.bool b) j pos) (tF g W (fC (.bl b))) := fe_C pe_bl fun _ => rfl
theorem fe_non {j : Nat} {pos : Pos} : PE X (.Constant .none j pos) (tF g W (fC .non)) := fe_C pe_non fun _ => rfl
theorem fe_str {x : Str} {j : Nat} {pos : Pos} : PE X (.Constant (.str x) j pos) (tF g W (fC (.str x))) := fe_C pe_str fun _ => rfl
/-! two operands -/
def fBin (op : D → D → Option D) (a b : S → Rs D) : S → Rs D := fun st => (a st).bind fun x => (b st).bind fun y => Rs.ofO (op x y)
def fUn (op : D → Option D) (a : S → Rs D) : S → Rs D := fun st => (a st).bind fun x => Rs.ofO (op x)
def OpD (g : G) (r : R2) (op : D → D → Option D) : Prop := ∀ (x y d : D) (v w : V) (Hs H : Hp) (Q : VK), op x y = some d → Same Hs H → RepR g Hs H x v → RepR g Hs H y w → (∀ v', Rep g Hs d v' → Q v' H) → r v w H Q
def UnD (g : G) (r : V → Hp → VK → Prop) (op : D → Option D) : Prop := ∀ (x d : D) (v : V) (Hs H : Hp) (Q : VK), op x = some d → Same Hs H → RepR g Hs H x v → (∀ v', Rep g Hs d v' → Q v' H) → r v H Q
theorem bin_go {r : R2} {op : D → D → Option D} (hop : OpD g r op) {fa fb : S → Rs D} {σ : L2.St} {H : Hp} {Q : VK} (h : tF g W (fBin op fa fb) σ H Q) : tOp r (tR g W fa) (tR g W fb) σ H Q := by
  obtain ⟨B, st, Hs, G, q⟩ := h
  refine ⟨B, st, Hs, G, (Rz.bind q).imp fun x k v Hs1 H1 l1 rx => ?_⟩
  refine ⟨B, st, Hs1, G.later l1, (Rz.bind k).later l1 fun y _ k w Hs2 H2 l2 ry => ?_⟩
  obtain ⟨d, e, k⟩ := Rz.ofO k
  exact hop x y d v w Hs2 H2 Q e l2.sh (rx.later l2) ry fun v' r' => k v' Hs2 H2 (l1.trans l2) r'
theorem fe_bin {r : R2} {op : D → D → Option D} {a b : Expr} {o : Operator} {pos : Pos} (ho : OpR X (binaryOp o) r) (hop : OpD g r op) {fa fb : S → Rs D} (ha : PE X a (tR g W fa)) (hb : PE X b (tR g W fb)) :
    PE X (.BinOp a o b pos) (tF g W (fBin op fa fb)) := PE.imp (pe_op ho ha hb) fun _ _ _ h => bin_go hop h
theorem fe_cmp {r : R2} {op : D → D → Option D} {a b : Expr} {o : CmpOp} {pos : Pos} (ho : OpR X (compareOp o) r) (hop : OpD g r op) {fa fb : S → Rs D} (ha : PE X a (tR g W fa)) (hb : PE X b (tR g W fb)) (hm : behindInMarks o b = false) :
    PE X (.Compare a [o] [b] pos) (tF g W (fBin op fa fb)) := PE.imp (pe_cmpR ho ha hb hm) fun _ _ _ h => bin_go hop h
theorem fe_un {r : V → Hp → VK → Prop} {op : D → Option D} {a : Expr} {o : UnaryOp} {pos : Pos} (ho : UnR X (unaryOp o) r) (hop : UnD g r op) {fa : S → Rs D} (ha : PE X a (tR g W fa)) :
    PE X (.UnaryOp o a pos) (tF g W (fUn op fa)) := PE.imp (pe_un ho ha) fun σ H Q ⟨B, st, Hs, G, q⟩ =>
  ⟨B, st, Hs, G, (Rz.bind q).imp fun x k v Hs1 H1 l1 rx => by
    obtain ⟨d, e, k⟩ := Rz.ofO k
    exact hop x d v Hs1 H1 Q e l1.sh rx fun v' r' => k v' Hs1 H1 l1 r'⟩
theorem fe_ix {r : R2} {op : D → D → Option D} {a b : Expr} {pos : Pos} (ho : IxR X r) (hop : OpD g r op) {fa fb : S → Rs D} (ha : PE X a (tR g W fa)) (hb : PE X b (tR g W fb)) (hs : PlainIx b := by exact fun _ _ => rfl) :
    PE X (.Subscript a b pos) (tF g W (fBin op fa fb)) := PE.imp (pe_ix ho ha hb hs) fun _ _ _ h => bin_go hop h
end
/-! ### the operators on data -/
def dI2 (f : Int → Int → D) : D → D → Option D
  | .int i, .int j => some (f i j)
  | _, _ => none
def dI2c (c : Int → Int → Bool) (f : Int → Int → D) : D → D → Option D
  | .int i, .int j => if c i j = true then some (f i j) else none
  | _, _ => none
theorem repR_int {g : G} {Hs H : Hp} {i : Int} {v : V} (h : RepR g Hs H (.int i) v) : v = .int i := h
theorem repR_bl {g : G} {Hs H : Hp} {i : Bool} {v : V} (h : RepR g Hs H (.bl i) v) : v = .bl i := h
theorem repR_str {g : G} {Hs H : Hp} {i : Str} {v : V} (h : RepR g Hs H (.str i) v) : v = .str i := h
section
variable {g : G}
theorem opI_int {f : Int → Int → Int} : OpD g (rI0 fun i j => .int (f i j)) (dI2 fun i j => .int (f i j)) := fun x y d v w Hs H Q e s rx ry k => by
  unfold dI2 at e
  split at e
  · cases e
    exact ⟨_, _, repR_int rx, repR_int ry, k _ rfl⟩
  · cases e
theorem opI_bl {f : Int → Int → Bool} : OpD g (rI0 fun i j => .bl (f i j)) (dI2 fun i j => .bl (f i j)) := fun x y d v w Hs H Q e s rx ry k => by
  unfold dI2 at e
  split at e
  · cases e
    exact ⟨_, _, repR_int rx, repR_int ry, k _ rfl⟩
  · cases e
theorem opIc_int {C : Int → Int → Prop} {c : Int → Int → Bool} {f : Int → Int → Int} (hc : ∀ i j, c i j = true → C i j) : OpD g (rI C fun i j => .int (f i j)) (dI2c c fun i j => .int (f i j)) := fun x y d v w Hs H Q e s rx ry k => by
  unfold dI2c at e
  split at e
  · split at e
    · rename_i h
      cases e
      exact ⟨_, _, repR_int rx, repR_int ry, hc _ _ h, k _ rfl⟩
    · cases e
  · cases e
end
end Fx
set_option Elab.async false
set_option linter.all false
set_option maxRecDepth 100000
set_option maxHeartbeats 4000000
namespace Fx
open PySem L2
/-! ### tests -/
section
variable {X : Cx} {g : G} {W : WX} {e a b c : Expr} {pos : Pos}
def asB : D → Rs Bool
  | .bl b => .ok b
  | _ => .bad
def fTest (f : S → Rs D) : S → Rs Bool := fun st => (f st).bind asB
theorem test_go {f : S → Rs D} {σ : L2.St} {H : Hp} {Q : Bool → Hp → Prop} (h : tT g W (fTest f) σ H Q) : tF g W f σ H fun x H' => ∃ k, x = .bl k ∧ Q k H' := by
  obtain ⟨B, st, Hs, G, q⟩ := h
  refine ⟨B, st, Hs, G, (Rz.bind q).imp fun d k v Hs1 H1 l1 r => ?_⟩
  cases d with
  | bl b => exact ⟨b, r, k Hs1 H1 l1⟩
  | _ => exact False.elim k
theorem ft_val {f : S → Rs D} (h : PE X e (tF g W f)) (he : ∀ whole, isTrue e X.env whole = (do let v ← whole; standAt e.pos; holding [v] (truthy v)) := by intro _; rfl) : PT X e (tT g W (fTest f)) :=
  PT.imp (pt_val h he) fun _ _ _ q => test_go q
theorem ft_cmp {r : R2} {op : D → D → Option D} {o : CmpOp} (ho : OpR X (compareOp o) r) (hop : OpD g r op) {fa fb : S → Rs D} (ha : PE X a (tR g W fa)) (hb : PE X b (tR g W fb)) (hm : behindInMarks o b = false) :
    PT X (.Compare a [o] [b] pos) (tT g W (fTest (fBin op fa fb))) := PT.imp (pt_cmpR ho ha hb hm) fun σ H Q q => bin_go hop (W := W) (Q := fun x H' => ∃ k, x = .bl k ∧ Q k H') (test_go q)
def fNot (f : S → Rs Bool) : S → Rs Bool := fun st => (f st).bind fun b => .ok (!b)
theorem ft_not {f : S → Rs Bool} (h : PT X a (tT g W f)) : PT X (.UnaryOp .Not a pos) (tT g W (fNot f)) := PT.imp (pt_not h) fun σ H Q ⟨B, st, Hs, G, q⟩ => ⟨B, st, Hs, G, (Rz.bind q).imp fun b k Hs1 H1 l => k Hs1 H1 l⟩
def fAnd (f h : S → Rs Bool) : S → Rs Bool := fun st => (f st).bind fun b => if b = true then h st else .ok false
def fOr (f h : S → Rs Bool) : S → Rs Bool := fun st => (f st).bind fun b => if b = true then .ok true else h st
theorem and_go {f h : S → Rs Bool} {σ : L2.St} {H : Hp} {Q : Bool → Hp → Prop} (q : tT g W (fAnd f h) σ H Q) : tAnd (tT g W f) (tT g W h) σ H Q := by
  obtain ⟨B, st, Hs, G, q⟩ := q
  refine ⟨B, st, Hs, G, (Rz.bind q).imp fun b k Hs1 H1 l => ?_⟩
  cases b with
  | true => exact ⟨B, st, Hs1, G.later l, Rz.later k l fun b _ k Hs2 H2 l2 => k Hs2 H2 (l.trans l2)⟩
  | false => exact k Hs1 H1 l
theorem or_go {f h : S → Rs Bool} {σ : L2.St} {H : Hp} {Q : Bool → Hp → Prop} (q : tT g W (fOr f h) σ H Q) : tOr (tT g W f) (tT g W h) σ H Q := by
  obtain ⟨B, st, Hs, G, q⟩ := q
  refine ⟨B, st, Hs, G, (Rz.bind q).imp fun b k Hs1 H1 l => ?_⟩
  cases b with
  | false => exact ⟨B, st, Hs1, G.later l, Rz.later k l fun b _ k Hs2 H2 l2 => k Hs2 H2 (l.trans l2)⟩
  | true => exact k Hs1 H1 l
theorem fw_and1 {f : S → Rs Bool} (h : PT X a (tT g W f)) : PW X (.BoolOp .And [a] pos) (tT g W f) := pw_and1 h
theorem fw_or1 {f : S → Rs Bool} (h : PT X a (tT g W f)) : PW X (.BoolOp .Or [a] pos) (tT g W f) := pw_or1 h
theorem fw_and {rest : List Expr} {f h : S → Rs Bool} (ha : PT X a (tT g W f)) (hb : PW X (.BoolOp .And (b :: rest) pos) (tT g W h)) : PW X (.BoolOp .And (a :: b :: rest) pos) (tT g W (fAnd f h)) := PW.imp (pw_and ha hb) fun _ _ _ q => and_go q
theorem fw_or {rest : List Expr} {f h : S → Rs Bool} (ha : PT X a (tT g W f)) (hb : PW X (.BoolOp .Or (b :: rest) pos) (tT g W h)) : PW X (.BoolOp .Or (a :: b :: rest) pos) (tT g W (fOr f h)) := PW.imp (pw_or ha hb) fun _ _ _ q => or_go q
theorem ft_w {f : S → Rs Bool} (h : PW X e (tT g W f)) : PT X e (tT g W f) := h.pt
/-- as values -/
def fB (f : S → Rs Bool) : S → Rs D := fun st => (f st).bind fun b => .ok (.bl b)
theorem fe_one {op} {f : S → Rs D} (h : PE X a (tF g W f)) : PE X (.BoolOp op [a] pos) (tF g W f) := pe_one h
def fAndV (f h : S → Rs D) : S → Rs D := fun st => (f st).bind fun x => (asB x).bind fun b => if b = true then h st else .ok (.bl false)
def fOrV (f h : S → Rs D) : S → Rs D := fun st => (f st).bind fun x => (asB x).bind fun b => if b = true then .ok (.bl true) else h st
theorem fe_and {rest : List Expr} {f h : S → Rs D} (ha : PE X a (tF g W f)) (hb : PE X (.BoolOp .And (b :: rest) pos) (tF g W h)) : PE X (.BoolOp .And (a :: b :: rest) pos) (tF g W (fAndV f h)) := PE.imp (pe_and ha hb) fun σ H Q ⟨B, st, Hs, G, q⟩ => by
  refine ⟨B, st, Hs, G, (Rz.bind q).imp fun x k v Hs1 H1 l r => ?_⟩
  cases x with
  | bl b =>
    refine ⟨b, r, ?_⟩
    cases b with
    | true => exact ⟨B, st, Hs1, G.later l, Rz.later k l fun b _ k v Hs2 H2 l2 r => k v Hs2 H2 (l.trans l2) r⟩
    | false => exact k (.bl false) Hs1 H1 l rfl
  | _ => exact False.elim k
theorem fe_or {rest : List Expr} {f h : S → Rs D} (ha : PE X a (tF g W f)) (hb : PE X (.BoolOp .Or (b :: rest) pos) (tF g W h)) : PE X (.BoolOp .Or (a :: b :: rest) pos) (tF g W (fOrV f h)) := PE.imp (pe_or ha hb) fun σ H Q ⟨B, st, Hs, G, q⟩ => by
  refine ⟨B, st, Hs, G, (Rz.bind q).imp fun x k v Hs1 H1 l r => ?_⟩
  cases x with
  | bl b =>
    refine ⟨b, r, ?_⟩
    cases b with
    | false => exact ⟨B, st, Hs1, G.later l, Rz.later k l fun b _ k v Hs2 H2 l2 r => k v Hs2 H2 (l.trans l2) r⟩
    | true => exact k (.bl true) Hs1 H1 l rfl
  | _ => exact False.elim k
def fNotV (f : S → Rs D) : S → Rs D := fun st => (f st).bind fun x => (asB x).bind fun b => .ok (.bl (!b))
theorem fe_not {f : S → Rs D} (ha : PE X a (tF g W f)) : PE X (.UnaryOp .Not a pos) (tF g W (fNotV f)) := PE.imp (pe_not ha) fun σ H Q ⟨B, st, Hs, G, q⟩ => by
  refine ⟨B, st, Hs, G, (Rz.bind q).imp fun x k v Hs1 H1 l r => ?_⟩
  cases x with
  | bl b => exact ⟨b, r, k _ Hs1 H1 l rfl⟩
  | _ => exact False.elim k
def fIf {α : Type} (c : S → Rs Bool) (f h : S → Rs α) : S → Rs α := fun st => (c st).bind fun b => if b = true then f st else h st
theorem fe_ifExp {fc : S → Rs Bool} {f h : S → Rs D} (hc : PT X c (tT g W fc)) (ha : PE X a (tF g W f)) (hb : PE X b (tF g W h)) : PE X (.IfExp c a b pos) (tF g W (fIf fc f h)) := PE.imp (pe_ifExp hc ha hb) fun σ H Q ⟨B, st, Hs, G, q⟩ => by
  refine ⟨B, st, Hs, G, (Rz.bind q).imp fun b k Hs1 H1 l => ?_⟩
  cases b with
  | true => exact ⟨B, st, Hs1, G.later l, Rz.later k l fun b _ k v Hs2 H2 l2 r => k v Hs2 H2 (l.trans l2) r⟩
  | false => exact ⟨B, st, Hs1, G.later l, Rz.later k l fun b _ k v Hs2 H2 l2 r => k v Hs2 H2 (l.trans l2) r⟩
/-! ### arguments, displays -/
def fNil : S → Rs (List D) := fun _ => .ok []
def fCons (f : S → Rs D) (h : S → Rs (List D)) : S → Rs (List D) := fun st => (f st).bind fun x => (h st).bind fun r => .ok (x :: r)
theorem fa_nil : PA X [] (tA g W fNil) := PA.imp pa_nil fun σ H Q ⟨B, st, Hs, G, q⟩ => q [] Hs H (Lt.refl G.sh) rfl
theorem fa_cons {es : List Expr} {f : S → Rs D} {h : S → Rs (List D)} (ha : PE X e (tF g W f)) (hr : PA X es (tA g W h)) (hs : starEach (e :: es) X.env = (false, eval e X.env) :: starEach es X.env := by rfl) : PA X (e :: es) (tA g W (fCons f h)) :=
  PA.imp (pa_cons ha hr hs) fun σ H Q ⟨B, st, Hs, G, q⟩ => by
    refine ⟨B, st, Hs, G, (Rz.bind q).imp fun x k v Hs1 H1 l r => ?_⟩
    refine ⟨B, st, Hs1, G.later l, Rz.later (Rz.bind k) l fun ds _ k vs Hs2 H2 l2 rs => k (v :: vs) Hs2 H2 (l.trans l2) ⟨v, vs, rfl, Rep.mono l2.ss _ _ r, rs⟩⟩
/-- arguments that are read on the spot -/
def RepRL (g : G) (Hs H : Hp) : List D → List V → Prop
  | [], vs => vs = []
  | d :: ds, vs => ∃ v r, vs = v :: r ∧ RepR g Hs H d v ∧ RepRL g Hs H ds r
def tAR (g : G) (W : WX) (f : S → Rs (List D)) : TA := fun σ H Q => ∃ B st Hs, Good g B st σ Hs H ∧ Rz g W σ Hs H (f st) fun ds => ∀ vs Hs' H', Lt Hs H Hs' H' → RepRL g Hs' H' ds vs → Q vs H'
theorem RepRL.later {g : G} {Hs H Hs' H' : Hp} (l : Lt Hs H Hs' H') : ∀ {ds : List D} {vs : List V}, RepRL g Hs H ds vs → RepRL g Hs' H' ds vs
  | [], _, h => h
  | d :: ds, _, ⟨v, r, h1, h2, h3⟩ => ⟨v, r, h1, h2.later l, RepRL.later l h3⟩
theorem far_nil : PA X [] (tAR g W fNil) := PA.imp pa_nil fun σ H Q ⟨B, st, Hs, G, q⟩ => q [] Hs H (Lt.refl G.sh) rfl
theorem far_cons {es : List Expr} {f : S → Rs D} {h : S → Rs (List D)} (ha : PE X e (tR g W f)) (hr : PA X es (tAR g W h)) (hs : starEach (e :: es) X.env = (false, eval e X.env) :: starEach es X.env := by rfl) : PA X (e :: es) (tAR g W (fCons f h)) :=
  PA.imp (pa_cons ha hr hs) fun σ H Q ⟨B, st, Hs, G, q⟩ => by
    refine ⟨B, st, Hs, G, (Rz.bind q).imp fun x k v Hs1 H1 l r => ?_⟩
    refine ⟨B, st, Hs1, G.later l, Rz.later (Rz.bind k) l fun ds _ k vs Hs2 H2 l2 rs => k (v :: vs) Hs2 H2 (l.trans l2) ⟨v, vs, rfl, r.later l2, rs⟩⟩
/-- all of them stand for good, seen from a heap where everything is known -/
theorem RepR.all {g : G} {Hs H : Hp} (s : Same Hs H) {d : D} {v : V} (h : RepR g Hs H d v) : Rep g H d v := by
  cases d with
  | lst ds =>
    obtain ⟨a, vs, h1, h2, h3⟩ := h Hs H (Lt.refl s)
    exact ⟨a, vs, h1, h2, RepL.mono s _ _ h3⟩
  | _ => exact Rep.mono s _ _ h
theorem RepRL.all {g : G} {Hs H : Hp} (s : Same Hs H) : ∀ {ds : List D} {vs : List V}, RepRL g Hs H ds vs → RepL g H ds vs
  | [], _, h => h
  | d :: ds, _, ⟨v, r, h1, h2, h3⟩ => ⟨v, r, h1, h2.all s, RepRL.all s h3⟩
def few {α : Type} (ds : List D) (r : Rs α) : Rs α := if ds.length ≤ 100000 then r else .bad
theorem few_of {α : Type} {ds : List D} {r : Rs α} {σ : L2.St} {Hs H : Hp} {k : α → Prop} (h : Rz g W σ Hs H (few ds r) k) : ds.length ≤ sizeLine ∧ Rz g W σ Hs H r k := by
  unfold few at h
  split at h
  · rename_i q
    exact ⟨Nat.le_trans q (by decide), h⟩
  · exact False.elim h
def fTup (h : S → Rs (List D)) : S → Rs D := fun st => (h st).bind fun ds => few ds (.ok (.tup ds))
theorem fe_tup {es : List Expr} {x1 : Nat} {h : S → Rs (List D)} (ha : PA X es (tA g W h)) : PE X (.Tuple es x1 pos) (tF g W (fTup h)) := PE.imp (pe_tup ha) fun σ H Q ⟨B, st, Hs, G, q⟩ => by
  refine ⟨B, st, Hs, G, (Rz.bind q).imp fun ds k vs Hs1 H1 l r => ?_⟩
  obtain ⟨hl, k⟩ := few_of k
  refine ⟨by rw [← r.len]; exact hl, fun p np => ?_⟩
  have n := Lt.new (o := .tup vs) l.sh np
  exact k (.ref p) (upd Hs1 p (.tup vs)) (upd H1 p (.tup vs)) (l.trans n) ⟨p, vs, rfl, SqT.of upd_same, RepL.mono n.ss _ _ r⟩
def fLst (h : S → Rs (List D)) : S → Rs (List D) := fun st => (h st).bind fun ds => few ds (.ok ds)
theorem fn_lst {es : List Expr} {h : S → Rs (List D)} (ha : PA X es (tA g W h)) : PE X (.List es pos) (tN g W (fLst h)) := PE.imp (pe_lst ha) fun σ H Q ⟨B, st, Hs, G, q⟩ => by
  refine ⟨B, st, Hs, G, (Rz.bind q).imp fun ds k vs Hs1 H1 l r => ?_⟩
  obtain ⟨hl, k⟩ := few_of k
  refine ⟨by rw [← r.len]; exact hl, fun p np => ?_⟩
  have n := Lt.priv (o := .lst vs) l.sh np
  exact k p vs Hs1 (upd H1 p (.lst vs)) (l.hh.free np) (l.trans n) (l.sh.free np) upd_same r
/-! ### builtins by name, of one or two arguments, the answer no list -/
variable {x : Str} {p : Pos}
def CallD1 (g : G) (r : List V → Hp → VK → Prop) (op : D → Option D) : Prop := ∀ (x d : D) (v : V) (Hs H : Hp) (Q : VK), op x = some d → Same Hs H → RepR g Hs H x v → (∀ v', Rep g Hs d v' → Q v' H) → r [v] H Q
def CallD2 (g : G) (r : List V → Hp → VK → Prop) (op : D → D → Option D) : Prop := ∀ (x y d : D) (v w : V) (Hs H : Hp) (Q : VK), op x y = some d → Same Hs H → RepR g Hs H x v → RepR g Hs H y w → (∀ v', Rep g Hs d v' → Q v' H) → r [v, w] H Q
theorem call1_go {r : List V → Hp → VK → Prop} {op : D → Option D} (hop : CallD1 g r op) {fa : S → Rs D} {σ : L2.St} {H : Hp} {Q : VK} (h : tF g W (fUn op fa) σ H Q) : tCB r (tCons (tR g W fa) tNil) σ H Q := by
  obtain ⟨B, st, Hs, G, q⟩ := h
  refine ⟨B, st, Hs, G, (Rz.bind q).imp fun x k v Hs1 H1 l1 rx => ?_⟩
  obtain ⟨d, e, k⟩ := Rz.ofO k
  exact hop x d v Hs1 H1 Q e l1.sh rx fun v' r' => k v' Hs1 H1 l1 r'
theorem fe_call1 {id : String} {r : List V → Hp → VK → Prop} {op : D → Option D} (hc : CallR X (.builtin id) r) (hop : CallD1 g r op) (hg : Gl X x) (hm : X.mg x = none) (hv : bootBuiltins x = some (.builtin id)) {fa : S → Rs D} (ha : PE X a (tR g W fa))
    (hn : x ≠ "__name__" := by decide) (hdb : (x == ("__debug__" : Str)) = false := by decide) (hs : starEach [a] X.env = (false, eval a X.env) :: starEach [] X.env := by rfl) :
    PE X (.Call (.Name x p) [a] [] pos) (tF g W (fUn op fa)) := PE.imp (pe_callB hc hg hm hv (pa_cons ha pa_nil hs) hn hdb hs rfl) fun _ _ _ h => call1_go hop h
theorem fe_callT1 {T : String} {r : List V → Hp → VK → Prop} {op : D → Option D} (hc : CallR X (.type T) r) (hop : CallD1 g r op) (hg : Gl X x) (hm : X.mg x = none) (hv : bootBuiltins x = some (.type T)) {fa : S → Rs D} (ha : PE X a (tR g W fa))
    (hn : x ≠ "__name__" := by decide) (hdb : (x == ("__debug__" : Str)) = false := by decide) (hs : starEach [a] X.env = (false, eval a X.env) :: starEach [] X.env := by rfl) :
    PE X (.Call (.Name x p) [a] [] pos) (tF g W (fUn op fa)) := PE.imp (pe_callTy hc hg hm hv (pa_cons ha pa_nil hs) hn hdb hs rfl) fun _ _ _ h => call1_go hop h
theorem fe_call2 {id : String} {r : List V → Hp → VK → Prop} {op : D → D → Option D} (hc : CallR X (.builtin id) r) (hop : CallD2 g r op) (hg : Gl X x) (hm : X.mg x = none) (hv : bootBuiltins x = some (.builtin id)) {fa fb : S → Rs D}
    (ha : PE X a (tR g W fa)) (hb : PE X b (tR g W fb)) (hn : x ≠ "__name__" := by decide) (hdb : (x == ("__debug__" : Str)) = false := by decide)
    (hs : starEach [a, b] X.env = (false, eval a X.env) :: starEach [b] X.env := by rfl) (hs2 : starEach [b] X.env = (false, eval b X.env) :: starEach [] X.env := by rfl) (hpl : (backTo pos (starEach [b] X.env)).any (·.1) = false := by rfl) :
    PE X (.Call (.Name x p) [a, b] [] pos) (tF g W (fBin op fa fb)) := PE.imp (pe_callB hc hg hm hv (pa_cons ha (pa_cons hb pa_nil hs2) hs) hn hdb hs hpl) fun σ H Q ⟨B, st, Hs, G, q⟩ => by
  refine ⟨B, st, Hs, G, (Rz.bind q).imp fun x k v Hs1 H1 l1 rx => ?_⟩
  refine ⟨B, st, Hs1, G.later l1, (Rz.bind k).later l1 fun y _ k w Hs2 H2 l2 ry => ?_⟩
  obtain ⟨d, e, k⟩ := Rz.ofO k
  exact hop x y d v w Hs2 H2 Q e l2.sh (rx.later l2) ry fun v' r' => k v' Hs2 H2 (l1.trans l2) r'
/-- the answer a new list -/
def CallN1 (g : G) (r : List V → Hp → VK → Prop) (op : D → Option (List D)) : Prop := ∀ (x : D) (ds : List D) (v : V) (Hs H : Hp) (Q : VK), op x = some ds → Same Hs H → RepR g Hs H x v →
  (∀ p vs Hs' H', H p = none → Lt Hs H Hs' H' → Hs' p = none → H' p = some (.lst vs) → RepL g Hs' ds vs → Q (.ref p) H') → r [v] H Q
def fUnN (op : D → Option (List D)) (a : S → Rs D) : S → Rs (List D) := fun st => (a st).bind fun x => Rs.ofO (op x)
theorem callN1_go {r : List V → Hp → VK → Prop} {op : D → Option (List D)} (hop : CallN1 g r op) {fa : S → Rs D} {σ : L2.St} {H : Hp} {Q : VK} (h : tN g W (fUnN op fa) σ H Q) : tCB r (tCons (tR g W fa) tNil) σ H Q := by
  obtain ⟨B, st, Hs, G, q⟩ := h
  refine ⟨B, st, Hs, G, (Rz.bind q).imp fun x k v Hs1 H1 l1 rx => ?_⟩
  obtain ⟨d, e, k⟩ := Rz.ofO k
  exact hop x d v Hs1 H1 Q e l1.sh rx fun p vs Hs' H' np l n1 hp r => k p vs Hs' H' (l1.hh.free np) (l1.trans l) n1 hp r
theorem fn_callT1 {T : String} {r : List V → Hp → VK → Prop} {op : D → Option (List D)} (hc : CallR X (.type T) r) (hop : CallN1 g r op) (hg : Gl X x) (hm : X.mg x = none) (hv : bootBuiltins x = some (.type T)) {fa : S → Rs D} (ha : PE X a (tR g W fa))
    (hn : x ≠ "__name__" := by decide) (hdb : (x == ("__debug__" : Str)) = false := by decide) (hs : starEach [a] X.env = (false, eval a X.env) :: starEach [] X.env := by rfl) :
    PE X (.Call (.Name x p) [a] [] pos) (tN g W (fUnN op fa)) := PE.imp (pe_callTy hc hg hm hv (pa_cons ha pa_nil hs) hn hdb hs rfl) fun _ _ _ h => callN1_go hop h
theorem fn_call1 {id : String} {r : List V → Hp → VK → Prop} {op : D → Option (List D)} (hc : CallR X (.builtin id) r) (hop : CallN1 g r op) (hg : Gl X x) (hm : X.mg x = none) (hv : bootBuiltins x = some (.builtin id)) {fa : S → Rs D} (ha : PE X a (tR g W fa))
    (hn : x ≠ "__name__" := by decide) (hdb : (x == ("__debug__" : Str)) = false := by decide) (hs : starEach [a] X.env = (false, eval a X.env) :: starEach [] X.env := by rfl) :
    PE X (.Call (.Name x p) [a] [] pos) (tN g W (fUnN op fa)) := PE.imp (pe_callB hc hg hm hv (pa_cons ha pa_nil hs) hn hdb hs rfl) fun _ _ _ h => callN1_go hop h
/-- two operands, a new list -/
def OpN (g : G) (r : R2) (op : D → D → Option (List D)) : Prop := ∀ (x y : D) (ds : List D) (v w : V) (Hs H : Hp) (Q : VK), op x y = some ds → Same Hs H → RepR g Hs H x v → RepR g Hs H y w →
  (∀ p vs Hs' H', H p = none → Lt Hs H Hs' H' → Hs' p = none → H' p = some (.lst vs) → RepL g Hs' ds vs → Q (.ref p) H') → r v w H Q
def fBinN (op : D → D → Option (List D)) (a b : S → Rs D) : S → Rs (List D) := fun st => (a st).bind fun x => (b st).bind fun y => Rs.ofO (op x y)
theorem fn_bin {r : R2} {op : D → D → Option (List D)} {o : Operator} (ho : OpR X (binaryOp o) r) (hop : OpN g r op) {fa fb : S → Rs D} (ha : PE X a (tR g W fa)) (hb : PE X b (tR g W fb)) :
    PE X (.BinOp a o b pos) (tN g W (fBinN op fa fb)) := PE.imp (pe_op ho ha hb) fun σ H Q ⟨B, st, Hs, G, q⟩ => by
  refine ⟨B, st, Hs, G, (Rz.bind q).imp fun x k v Hs1 H1 l1 rx => ?_⟩
  refine ⟨B, st, Hs1, G.later l1, (Rz.bind k).later l1 fun y _ k w Hs2 H2 l2 ry => ?_⟩
  obtain ⟨d, e, k⟩ := Rz.ofO k
  exact hop x y d v w Hs2 H2 Q e l2.sh (rx.later l2) ry fun p vs Hs' H' np l n1 hp r => k p vs Hs' H' (l1.hh.free (l2.hh.free np)) ((l1.trans l2).trans l) n1 hp r
/-- slices -/
def fPart (f : S → Rs D) : S → Rs (Option Int) := fun st => (f st).bind fun d => match d with
  | .int i => .ok (some i)
  | _ => .bad
def fNoPart : S → Rs (Option Int) := fun _ => .ok none
def tO (g : G) (W : WX) (f : S → Rs (Option Int)) : TO := fun σ H Q => ∃ B st Hs, Good g B st σ Hs H ∧ Rz g W σ Hs H (f st) fun o => ∀ Hs' H', Lt Hs H Hs' H' → Q o H'
theorem PO.imp {e : Option Expr} {t t' : TO} (h : PO X e t) (i : ∀ σ H Q, t' σ H Q → t σ H Q) : PO X e t' := ⟨fun pins s σ H Q I q => h.run pins s σ H Q I (i σ H Q q)⟩
theorem fo_none : PO X none (tO g W fNoPart) := PO.imp po_none fun σ H Q ⟨B, st, Hs, G, q⟩ => q Hs H (Lt.refl G.sh)
theorem fo_some {f : S → Rs D} (h : PE X e (tF g W f)) : PO X (some e) (tO g W (fPart f)) := PO.imp (po_some h) fun σ H Q ⟨B, st, Hs, G, q⟩ => by
  refine ⟨B, st, Hs, G, (Rz.bind q).imp fun d k v Hs1 H1 l r => ?_⟩
  cases d with
  | int i => exact ⟨i, r, k Hs1 H1 l⟩
  | _ => exact False.elim k
def cutD (xs : List D) (lo hi : Option Int) : List D := (xs.drop (HT.sIx xs.length 0 lo)).take (HT.sIx xs.length xs.length hi - HT.sIx xs.length 0 lo)
theorem cut_rep {g : G} {H : Hp} {ds : List D} {vs : List V} (h : RepL g H ds vs) (lo hi : Option Int) : RepL g H (cutD ds lo hi) (cutV vs lo hi) := by
  unfold cutD cutV
  rw [h.len]
  exact (h.drop _).take _
def asL : D → Option (List D)
  | .lst ds => some ds
  | .scr ns => some (ns.map D.int)
  | _ => none
theorem asL_rd {g : G} {Hs H : Hp} {x : D} {ds : List D} {v : V} (e : asL x = some ds) (s : Same Hs H) (r : RepR g Hs H x v) : ∃ a vs, v = .ref a ∧ SqL g.K H a vs ∧ RepL g Hs ds vs := by
  cases x with
  | lst es =>
    cases e
    obtain ⟨a, vs, h1, h2, h3⟩ := r Hs H (Lt.refl s)
    exact ⟨a, vs, h1, SqL.of h2, h3⟩
  | scr ns =>
    cases e
    obtain ⟨a, h1, h2⟩ := r
    exact ⟨a, _, h1, s.seq h2, RepL.ints ns⟩
  | _ => cases e
def fSl (f : S → Rs D) (lo hi : S → Rs (Option Int)) : S → Rs (List D) := fun st => (f st).bind fun x => (lo st).bind fun l => (hi st).bind fun h => Rs.ofO ((asL x).map fun ds => cutD ds l h)
theorem fn_slice {lo hi : Option Expr} {p2 : Pos} {f : S → Rs D} {fl fh : S → Rs (Option Int)} (hK : g.K = X.K) (ha : PE X a (tR g W f)) (hl : PO X lo (tO g W fl)) (hh : PO X hi (tO g W fh)) :
    PE X (.Subscript a (.Slice lo hi none p2) pos) (tN g W (fSl f fl fh)) := PE.imp (pe_slice sl_list ha hl hh) fun σ H Q ⟨B, st, Hs, G, q⟩ => by
  refine ⟨B, st, Hs, G, (Rz.bind q).imp fun x k v Hs1 H1 l1 rx => ?_⟩
  refine ⟨B, st, Hs1, G.later l1, (Rz.bind k).later l1 fun lo _ k Hs2 H2 l2 => ?_⟩
  refine ⟨B, st, Hs2, (G.later l1).later l2, (Rz.bind k).later (l1.trans l2) fun hi _ k Hs3 H3 l3 => ?_⟩
  obtain ⟨ds, e, k⟩ := Rz.ofO k
  obtain ⟨es, e1, e2⟩ := Option.map_eq_some_iff.mp e
  have l13 := (l1.trans l2).trans l3
  obtain ⟨a, vs, h1, h2, h3⟩ := asL_rd e1 l3.sh ((rx.later l2).later l3)
  rw [hK] at h2
  refine ⟨a, vs, h1, h2, fun p np => ?_⟩
  have n := Lt.priv (o := .lst (cutV vs lo hi)) l3.sh np
  exact k p _ Hs3 _ (l13.hh.free np) (l13.trans n) (l3.sh.free np) upd_same (e2 ▸ cut_rep h3 lo hi)
end
end Fx
set_option Elab.async false
set_option linter.all false
set_option maxRecDepth 100000
set_option maxHeartbeats 4000000
namespace Fx
open PySem L2
inductive Out where
  | nx (s : S) | rt (d : D) | rtN (ds : List D) | bk (s : S) | ct (s : S) | xr (c : Nat) (n : Option Int) (s : S)
def EndOk (g : G) (B : Bs) (W : WX) (Hs : Hp) (Dn : Ends) : Out → Prop
  | .nx s => ∀ σ' Hs' H', Same Hs Hs' → Good g B s σ' Hs' H' → Dn.nx σ' H'
  | .bk s => ∀ σ' Hs' H', Same Hs Hs' → Good g B s σ' Hs' H' → Dn.bk σ' H'
  | .ct s => ∀ σ' Hs' H', Same Hs Hs' → Good g B s σ' Hs' H' → Dn.ct σ' H'
  | .rt d => ∀ v Hs' H', Lt B.b1 B.b2 Hs' H' → Rep g Hs' d v → Dn.rt v H'
  | .rtN ds => ∀ p vs Hs' H', B.b2 p = none → Lt B.b1 B.b2 Hs' H' → Hs' p = none → H' p = some (.lst vs) → RepL g Hs' ds vs → Dn.rt (.ref p) H'
  | .xr c n s => ∀ d' σ' Hs' H' Hx, Same Hs Hs' → Good g B s σ' Hs' H' → Lt Hs' H' Hs' Hx → XD n d' Hx → W (.ref (g.cl c)) d' σ' Hx
theorem EndOk.same {g : G} {B : Bs} {W : WX} {Hs Hs' : Hp} {Dn : Ends} (s : Same Hs Hs') {o : Out} (h : EndOk g B W Hs Dn o) : EndOk g B W Hs' Dn o := by
  cases o with
  | nx _ => exact fun σ H1 H2 s2 => h σ H1 H2 (s.trans s2)
  | bk _ => exact fun σ H1 H2 s2 => h σ H1 H2 (s.trans s2)
  | ct _ => exact fun σ H1 H2 s2 => h σ H1 H2 (s.trans s2)
  | rt _ => exact h
  | rtN _ => exact h
  | xr _ _ _ => exact fun d σ H1 H2 H3 s2 => h d σ H1 H2 H3 (s.trans s2)
def tS (g : G) (W : WX) (f : S → Option Out) : TS := fun Dn σ H => ∃ B st Hs o, Good g B st σ Hs H ∧ f st = some o ∧ EndOk g B W Hs Dn o
/-- a result ahead of what follows -/
def stR {α : Type} (r : Rs α) (st : S) (k : α → Option Out) : Option Out := match r with
  | .bad => none
  | .ok a => k a
  | .er c n => some (.xr c n st)
section
variable {X : Cx} {g : G} {W : WX}
theorem stR_go {α : Type} {r : Rs α} {st : S} {k : α → Option Out} {B : Bs} {σ : L2.St} {Hs H : Hp} {o : Out} {Dn : Ends} (G : Good g B st σ Hs H) (h : stR r st k = some o) (e : EndOk g B W Hs Dn o) :
    Rz g W σ Hs H r fun a => k a = some o := by
  cases r with
  | bad => cases h
  | ok a => exact h
  | er c n =>
    have h : some (Out.xr c n st) = some o := h
    cases h
    exact fun d' Hs' H' l x => e d' σ Hs H H' (Same.refl _) G ⟨Same.refl _, G.sh.trans l.hh, l.hh, fun _ _ _ q => q⟩ x
/-! ### blocks -/
def sNext : S → Option Out := fun st => some (.nx st)
def sSeq (f h : S → Option Out) : S → Option Out := fun st => (f st).bind fun o => match o with
  | .nx s => h s
  | o => some o
theorem fss_nil : PSs X [] (tS g W sNext) := PSs.imp pss_nil fun Dn σ H ⟨B, st, Hs, o, G, e, k⟩ => by
  cases e
  exact k σ Hs H (Same.refl _) G
theorem seq_go {t : TS} {f h : S → Option Out} {Dn : Ends} {σ : L2.St} {H : Hp} (q : tS g W (sSeq f h) Dn σ H) : tS g W f { Dn with nx := tS g W h Dn } σ H := by
  obtain ⟨B, st, Hs, o, G, e, k⟩ := q
  unfold sSeq at e
  obtain ⟨o1, e1, e2⟩ := Option.bind_eq_some_iff.mp e
  refine ⟨B, st, Hs, o1, G, e1, ?_⟩
  cases o1 with
  | nx s => exact fun σ' Hs' H' s1 G1 => ⟨B, s, Hs', o, G1, e2, k.same s1⟩
  | _ =>
    cases e2
    exact k
theorem fss_cons {s : Stmt} {rest : List Stmt} {f h : S → Option Out} (h1 : PS X s (tS g W f)) (h2 : PSs X rest (tS g W h)) : PSs X (s :: rest) (tS g W (sSeq f h)) :=
  PSs.imp (pss_cons h1 h2) fun Dn σ H q => seq_go (t := tNext) q
theorem fss_one {s : Stmt} {f : S → Option Out} (h : PS X s (tS g W f)) : PSs X [s] (tS g W f) := pss_one h
/-- an own list is given up to all: nothing runs -/
def sFreeze (i : Nat) (f : S → Option Out) : S → Option Out := fun st => match st[i]? with
  | some (.own ds) => f (st.set i (.val (.lst ds)))
  | _ => f st
theorem fss_freeze (i : Nat) {ss : List Stmt} {f : S → Option Out} (h : PSs X ss (tS g W f)) : PSs X ss (tS g W (sFreeze i f)) := PSs.imp h fun Dn σ H ⟨B, st, Hs, o, G, e, k⟩ => by
  unfold sFreeze at e
  split at e
  · rename_i ds hi
    obtain ⟨Hs', s1, G1⟩ := G.freeze hi
    exact ⟨B, _, Hs', o, G1, e, k.same s1⟩
  · exact ⟨B, st, Hs, o, G, e, k⟩
theorem fs_pass {pos : Pos} : PS X (.Pass pos) (tS g W sNext) := PS.imp ps_pass fun Dn σ H ⟨B, st, Hs, o, G, e, k⟩ => by
  cases e
  exact k σ Hs H (Same.refl _) G
def sBrk : S → Option Out := fun st => some (.bk st)
def sCont : S → Option Out := fun st => some (.ct st)
theorem fs_break {pos : Pos} : PS X (.Break pos) (tS g W sBrk) := PS.imp ps_break fun Dn σ H ⟨B, st, Hs, o, G, e, k⟩ => by
  cases e
  exact k σ Hs H (Same.refl _) G
theorem fs_continue {pos : Pos} : PS X (.Continue pos) (tS g W sCont) := PS.imp ps_continue fun Dn σ H ⟨B, st, Hs, o, G, e, k⟩ => by
  cases e
  exact k σ Hs H (Same.refl _) G
/-- a doc -/
theorem fs_doc {x : Str} {j : Nat} {pos pos' : Pos} : PS X (.Expr (.Constant (.str x) j pos) pos') (tS g W sNext) := PS.imp ps_doc fun Dn σ H ⟨B, st, Hs, o, G, e, k⟩ => by
  cases e
  exact k σ Hs H (Same.refl _) G
/-! ### stores -/
variable {e : Expr} {pos pos' : Pos} {x : Str}
def sAsg (i : Nat) (f : S → Rs D) : S → Option Out := fun st => stR (f st) st fun d => some (.nx (st.set i (.val d)))
theorem asg_go {i : Nat} {f : S → Rs D} {Dn : Ends} {σ : L2.St} {H : Hp} (q : tS g W (sAsg i f) Dn σ H) : tF g W f σ H fun v H1 => Dn.nx (σ.set i (some v)) H1 := by
  obtain ⟨B, st, Hs, o, G, e, k⟩ := q
  refine ⟨B, st, Hs, G, (stR_go G e k).imp fun d q v Hs1 H1 l r => ?_⟩
  cases q
  exact k _ Hs1 H1 l.ss ((G.later l).set r)
theorem fs_asg (i : Nat) {f : S → Rs D} (hN : X.N.Nodup) (he : PE X e (tF g W f)) (hi : X.N[i]? = some x := by rfl) (hx : Loc X.env.scope x := by first | exact Or.inl rfl | exact Or.inr rfl)
    (hs : swapsWith e (some (.Name x pos')) pos.line X.env = pure false := by rfl) (hf : X.fn x = true ∨ X.env.scope.names.lookup x = some .local := by first | exact .inl rfl | exact .inr rfl) :
    PS X (.Assign [.Name x pos'] e pos) (tS g W (sAsg i f)) := PS.imp (ps_set hN hi hx he hs hf) fun Dn σ H q => asg_go q
/-- a new list, one's own -/
def sAsgN (i : Nat) (f : S → Rs (List D)) : S → Option Out := fun st => stR (f st) st fun ds => some (.nx (st.set i (.own ds)))
theorem asgN_go {i : Nat} {f : S → Rs (List D)} {Dn : Ends} {σ : L2.St} {H : Hp} (q : tS g W (sAsgN i f) Dn σ H) : tN g W f σ H fun v H1 => Dn.nx (σ.set i (some v)) H1 := by
  obtain ⟨B, st, Hs, o, G, e, k⟩ := q
  refine ⟨B, st, Hs, G, (stR_go G e k).imp fun d q p vs Hs1 H1 np l n1 hp r => ?_⟩
  cases q
  refine k _ Hs1 H1 l.ss ((G.later l).setOwn n1 (G.lt.hh.free np) hp r fun j es a h1 h2 z => ?_)
  subst z
  obtain ⟨a', ws, q1, _, _, q4, _⟩ := G.own j es h1
  rw [h2] at q1
  cases q1
  rw [np] at q4
  cases q4
theorem fs_asgN (i : Nat) {f : S → Rs (List D)} (hN : X.N.Nodup) (he : PE X e (tN g W f)) (hi : X.N[i]? = some x := by rfl) (hx : Loc X.env.scope x := by first | exact Or.inl rfl | exact Or.inr rfl)
    (hs : swapsWith e (some (.Name x pos')) pos.line X.env = pure false := by rfl) (hf : X.fn x = true ∨ X.env.scope.names.lookup x = some .local := by first | exact .inl rfl | exact .inr rfl) :
    PS X (.Assign [.Name x pos'] e pos) (tS g W (sAsgN i f)) := PS.imp (ps_set hN hi hx he hs hf) fun Dn σ H q => asgN_go q
/-- x += e, whole numbers -/
def sAug (op : Int → Int → Int) (i : Nat) (f : S → Rs D) : S → Option Out := fun st => match st[i]? with
  | some (.val (.int a)) => stR (f st) st fun d => match d with
    | .int b => some (.nx (st.set i (.val (.int (op a b)))))
    | _ => none
  | _ => none
theorem fs_aug (i : Nat) {op : Int → Int → Int} {o : Operator} {f : S → Rs D} (ho : PIp X o (ipI op)) (hN : X.N.Nodup) (he : PE X e (tF g W f)) (hi : X.N[i]? = some x := by rfl) (hx : Loc X.env.scope x := by first | exact Or.inl rfl | exact Or.inr rfl)
    (hf : X.fn x = true ∨ X.env.scope.names.lookup x = some .local := by first | exact .inl rfl | exact .inr rfl) :
    PS X (.AugAssign (.Name x pos') o e pos) (tS g W (sAug op i f)) := PS.imp (ps_aug hN hi hx he ho hf) fun Dn σ H ⟨B, st, Hs, o, G, e, k⟩ => by
  unfold sAug at e
  split at e
  · rename_i a hi
    obtain ⟨v, h1, h2⟩ := G.val i _ hi
    cases h2
    refine ⟨.int a, h1, B, st, Hs, G, (stR_go G e k).imp fun d q v Hs1 H1 l r => ?_⟩
    cases d with
    | int b =>
      cases r
      cases q
      exact ⟨a, b, rfl, rfl, k _ Hs1 H1 l.ss ((G.later l).set rfl)⟩
    | _ => cases q
  · cases e
/-- the result is dropped -/
def sDrop (f : S → Rs D) : S → Option Out := fun st => stR (f st) st fun _ => some (.nx st)
theorem fs_expr {f : S → Rs D} (he : PE X e (tF g W f)) (hs : swapsWith e none pos.line X.env = pure false := by rfl) : PS X (.Expr e pos) (tS g W (sDrop f)) := PS.imp (ps_expr he hs) fun Dn σ H ⟨B, st, Hs, o, G, e, k⟩ => by
  refine ⟨B, st, Hs, G, (stR_go G e k).imp fun d q v Hs1 H1 l r => ?_⟩
  cases q
  exact k _ Hs1 H1 l.ss (G.later l)
/-- methods that change an own list that a name holds -/
def sOwn1 (op : List D → D → Option (List D)) (i : Nat) (f : S → Rs D) : S → Option Out := fun st => match st[i]? with
  | some (.own ds) => stR (f st) st fun d => (op ds d).bind fun es => some (.nx (st.set i (.own es)))
  | _ => none
def Own1 (g : G) (r : V → List V → Hp → VK → Prop) (op : List D → D → Option (List D)) : Prop := ∀ (ds es : List D) (d : D) (l : Addr) (vs : List V) (v : V) (Hs H : Hp) (Q : VK), op ds d = some es → H l = some (.lst vs) → RepL g Hs ds vs → Rep g Hs d v →
  (∀ u ws, RepL g Hs es ws → Q u (upd H l (.lst ws))) → r (.ref l) [v] H Q
theorem fs_own1 (i : Nat) {name : Str} {id : String} {r : V → List V → Hp → VK → Prop} {op : List D → D → Option (List D)} {a : Expr} {npos apos cpos : Pos} {f : S → Rs D} (hop : Own1 g r op) (pa : PlainAttrs "list") (slot : Slot "list" name id)
    (hty : typeOf (.builtin id) = pure (.type "method_descriptor")) (hm : MtR X id r) (ha : PE X a (tF g W f)) (hN : X.N[i]? = some x := by rfl) (hv : Vis X.env.scope x := by first | exact Or.inl rfl | exact Or.inr (Or.inl rfl) | exact Or.inr (Or.inr rfl))
    (hd : (x == ("__debug__" : Str)) = false := by decide) (hcd : (x == ("__classdict__" : Str)) = false := by decide)
    (hbase : attributeBase (.Name x npos) name X.env (eval (.Name x npos) X.env) = eval (.Name x npos) X.env := by rfl)
    (hfew : ((backTo cpos (starEach [a] X.env)).all (fun x => !x.1) && (backToKw cpos (keywordEach [] X.env)).all (fun x => x.1.isSome) && decide ([a].length + ([] : List Keyword).length + (if ([] : List Keyword).isEmpty then 0 else 1) < 30)) = true := by rfl)
    (hline : (apos.endLine == cpos.line) = true := by rfl) (hs : starEach [a] X.env = (false, eval a X.env) :: starEach [] X.env := by rfl)
    (hsw : swapsWith (.Call (.Attribute (.Name x npos) name apos) [a] [] cpos) none pos.line X.env = pure false := by rfl) :
    PS X (.Expr (.Call (.Attribute (.Name x npos) name apos) [a] [] cpos) pos) (tS g W (sOwn1 op i f)) :=
  PS.imp (ps_expr (pe_bm pa slot hty hm (pe_var hN hv hd hcd) (pa_cons ha pa_nil hs) hbase hfew hline hs rfl) hsw) fun Dn σ H ⟨B, st, Hs, o, G, e, k⟩ => by
  unfold sOwn1 at e
  split at e
  · rename_i ds hi
    obtain ⟨l, vs, h1, h2, h3, h4, h5⟩ := G.own i ds hi
    refine ⟨.ref l, h1, .inl ⟨rfl, vs, SqL.of h4⟩, ?_⟩
    refine ⟨B, st, Hs, G, (stR_go G e k).imp fun d q v Hs1 H1 lt r => ?_⟩
    obtain ⟨es, q1, q2⟩ := Option.bind_eq_some_iff.mp q
    cases q2
    have G1 := G.later lt
    refine hop ds es d l vs v Hs1 H1 _ q1 (lt.hh _ _ h4) (RepL.mono lt.ss _ _ h5) r fun u ws rw' => ?_
    exact k _ Hs1 _ lt.ss (G1.write hi h1 (lt.np _ _ h4 h2) h3 (lt.hh _ _ h4) rw')
  · cases e
def dAppend (ds : List D) (d : D) : Option (List D) := if ds.length < 100000 then some (ds ++ [d]) else none
theorem own_append : Own1 g rAppend dAppend := fun ds es d l vs v Hs H Q e hl hr hd k => by
  unfold dAppend at e
  split at e
  · rename_i q
    cases e
    exact ⟨l, vs, v, rfl, rfl, hl, Nat.lt_of_lt_of_le (by rw [← hr.len]; exact q) (by decide), k _ _ (hr.append (.one hd))⟩
  · cases e
def sOwn0 (op : List D → Option (List D)) (i : Nat) : S → Option Out := fun st => match st[i]? with
  | some (.own ds) => (op ds).bind fun es => some (.nx (st.set i (.own es)))
  | _ => none
def Own0 (g : G) (r : V → List V → Hp → VK → Prop) (op : List D → Option (List D)) : Prop := ∀ (ds es : List D) (l : Addr) (vs : List V) (Hs H : Hp) (Q : VK), op ds = some es → H l = some (.lst vs) → RepL g Hs ds vs →
  (∀ u ws, RepL g Hs es ws → Q u (upd H l (.lst ws))) → r (.ref l) [] H Q
theorem fs_own0 (i : Nat) {name : Str} {id : String} {r : V → List V → Hp → VK → Prop} {op : List D → Option (List D)} {npos apos cpos : Pos} (hop : Own0 g r op) (pa : PlainAttrs "list") (slot : Slot "list" name id)
    (hty : typeOf (.builtin id) = pure (.type "method_descriptor")) (hm : MtR X id r) (hN : X.N[i]? = some x := by rfl) (hv : Vis X.env.scope x := by first | exact Or.inl rfl | exact Or.inr (Or.inl rfl) | exact Or.inr (Or.inr rfl))
    (hd : (x == ("__debug__" : Str)) = false := by decide) (hcd : (x == ("__classdict__" : Str)) = false := by decide)
    (hbase : attributeBase (.Name x npos) name X.env (eval (.Name x npos) X.env) = eval (.Name x npos) X.env := by rfl)
    (hline : (apos.endLine == cpos.line) = true := by rfl)
    (hsw : swapsWith (.Call (.Attribute (.Name x npos) name apos) [] [] cpos) none pos.line X.env = pure false := by rfl) :
    PS X (.Expr (.Call (.Attribute (.Name x npos) name apos) [] [] cpos) pos) (tS g W (sOwn0 op i)) :=
  PS.imp (ps_expr (pe_bm0 pa slot hty hm (pe_var hN hv hd hcd) hbase hline) hsw) fun Dn σ H ⟨B, st, Hs, o, G, e, k⟩ => by
  unfold sOwn0 at e
  split at e
  · rename_i ds hi
    obtain ⟨l, vs, h1, h2, h3, h4, h5⟩ := G.own i ds hi
    refine ⟨.ref l, h1, .inl ⟨rfl, vs, SqL.of h4⟩, ?_⟩
    obtain ⟨es, q1, q2⟩ := Option.bind_eq_some_iff.mp e
    cases q2
    refine hop ds es l vs Hs H _ q1 h4 h5 fun u ws rw' => ?_
    exact k _ Hs _ (Same.refl _) (G.write hi h1 h2 h3 h4 rw')
  · cases e
theorem own_clear : Own0 g rClear fun _ => some [] := fun ds es l vs Hs H Q e hl hr k => by
  cases e
  exact ⟨l, vs, rfl, rfl, hl, k _ [] rfl⟩
/-- xs[i] = e of an own list -/
def sSetIx (i : Nat) (fi fe : S → Rs D) : S → Option Out := fun st => stR (fe st) st fun d => match fi st, st[i]? with
  | .ok (.int j), some (.own ds) => (ixN ds.length j).bind fun n => some (.nx (st.set i (.own (ds.set n d))))
  | _, _ => none
theorem fs_setIx (i : Nat) {a b : Expr} {npos spos : Pos} {fi fe : S → Rs D} (he : PE X b (tF g W fe)) (hi : PE X a (tF g W fi)) (hN : X.N[i]? = some x := by rfl) (hv : Vis X.env.scope x := by first | exact Or.inl rfl | exact Or.inr (Or.inl rfl) | exact Or.inr (Or.inr rfl))
    (hd : (x == ("__debug__" : Str)) = false := by decide) (hcd : (x == ("__classdict__" : Str)) = false := by decide)
    (ha : ∀ v, assign (.Subscript (.Name x npos) a spos) X.env v = (do
      let ov ← holding [v] (eval (.Name x npos) X.env)
      let iv ← holding [v, ov] (eval a X.env)
      standAt spos
      holding [v, ov, iv] (setItem ov iv v)
      release [v, ov, iv] []) := by intro _; rfl)
    (hs : swapsWithSole [.Subscript (.Name x npos) a spos] b pos.line X.env = pure false := by rfl) (hw : swappedStores [.Subscript (.Name x npos) a spos] b X.env = pure none := by rfl)
    (h1 : (assignEach [.Subscript (.Name x npos) a spos] X.env).map (·.2) = [assign (.Subscript (.Name x npos) a spos) X.env] := by rfl) :
    PS X (.Assign [.Subscript (.Name x npos) a spos] b pos) (tS g W (sSetIx i fi fe)) := PS.imp (ps_asg he (pg_sub (pe_var hN hv hd hcd) hi set_list ha) hs hw h1) fun Dn σ H ⟨B, st, Hs, o, G, e, k⟩ => by
  refine ⟨B, st, Hs, G, (stR_go G e k).imp fun d q v Hs1 H1 lt r => ?_⟩
  have G1 := G.later lt
  split at q
  · rename_i j ds hj hi
    obtain ⟨n, q1, q2⟩ := Option.bind_eq_some_iff.mp q
    cases q2
    obtain ⟨l, vs, h1, h2, h3, h4, h5⟩ := G1.own i ds hi
    refine ⟨.ref l, h1, B, st, Hs1, G1, ?_⟩
    rw [hj]
    intro w Hs2 H2 lt2 rj
    cases rj
    have G2 := G1.later lt2
    refine ⟨l, vs, j, n, rfl, rfl, lt2.hh _ _ h4, by rw [← h5.len]; exact q1, ?_⟩
    exact k _ Hs2 _ (lt.trans lt2).ss (G2.write hi h1 (lt2.np _ _ h4 h2) h3 (lt2.hh _ _ h4) (RepL.set (Rep.mono lt2.ss _ _ r) n (RepL.mono lt2.ss _ _ h5)))
  · cases q
end
end Fx
set_option Elab.async false
set_option linter.all false
set_option maxRecDepth 100000
set_option maxHeartbeats 4000000
namespace Fx
open PySem L2
section
variable {X : Cx} {g : G} {W : WX} {e : Expr} {pos pos' : Pos} {x : Str}
/-! ### if, return -/
def sIf (c : S → Rs Bool) (f h : S → Option Out) : S → Option Out := fun st => stR (c st) st fun b => if b = true then f st else h st
theorem fs_if {c : Expr} {a b : List Stmt} {fc : S → Rs Bool} {f h : S → Option Out} (hc : PT X c (tT g W fc)) (ha : PSs X a (tS g W f)) (hb : PSs X b (tS g W h)) : PS X (.If c a b pos) (tS g W (sIf fc f h)) :=
  PS.imp (ps_if hc ha hb) fun Dn σ H ⟨B, st, Hs, o, G, e, k⟩ => by
  refine ⟨B, st, Hs, G, (stR_go G e k).imp fun b q Hs1 H1 l => ?_⟩
  cases b with
  | true => exact ⟨B, st, Hs1, o, G.later l, q, k.same l.ss⟩
  | false => exact ⟨B, st, Hs1, o, G.later l, q, k.same l.ss⟩
def sRet (f : S → Rs D) : S → Option Out := fun st => stR (f st) st fun d => some (.rt d)
theorem fs_ret {f : S → Rs D} (he : PE X e (tF g W f)) : PS X (.Return (some e) pos) (tS g W (sRet f)) := PS.imp (ps_ret he) fun Dn σ H ⟨B, st, Hs, o, G, e, k⟩ => by
  refine ⟨B, st, Hs, G, (stR_go G e k).imp fun d q v Hs1 H1 l r => ?_⟩
  cases q
  exact k v Hs1 H1 (G.lt.trans l) r
def sRetN (f : S → Rs (List D)) : S → Option Out := fun st => stR (f st) st fun ds => some (.rtN ds)
theorem fs_retN {f : S → Rs (List D)} (he : PE X e (tN g W f)) : PS X (.Return (some e) pos) (tS g W (sRetN f)) := PS.imp (ps_ret he) fun Dn σ H ⟨B, st, Hs, o, G, e, k⟩ => by
  refine ⟨B, st, Hs, G, (stR_go G e k).imp fun ds q p vs Hs1 H1 np l n1 hp r => ?_⟩
  cases q
  exact k p vs Hs1 H1 (G.lt.hh.free np) (G.lt.trans l) n1 hp r
/-- return of an own list -/
def sRetO (i : Nat) : S → Option Out := fun st => match st[i]? with
  | some (.own ds) => some (.rtN ds)
  | some (.val d) => some (.rt d)
  | _ => none
theorem fs_retO (i : Nat) {npos : Pos} (hN : X.N[i]? = some x := by rfl) (hv : Vis X.env.scope x := by first | exact Or.inl rfl | exact Or.inr (Or.inl rfl) | exact Or.inr (Or.inr rfl))
    (hd : (x == ("__debug__" : Str)) = false := by decide) (hcd : (x == ("__classdict__" : Str)) = false := by decide) :
    PS X (.Return (some (.Name x npos)) pos) (tS g W (sRetO i)) := PS.imp (ps_ret (pe_var hN hv hd hcd)) fun Dn σ H ⟨B, st, Hs, o, G, e, k⟩ => by
  unfold sRetO at e
  split at e
  · rename_i ds hi
    cases e
    obtain ⟨l, vs, h1, h2, h3, h4, h5⟩ := G.own i ds hi
    exact ⟨.ref l, h1, k l vs Hs H h3 G.lt h2 h4 h5⟩
  · rename_i d hi
    cases e
    obtain ⟨v, h1, h2⟩ := G.val i d hi
    exact ⟨v, h1, k v Hs H G.lt h2⟩
  · cases e
def sRetNone : S → Option Out := fun _ => some (.rt .non)
theorem fs_retNone : PS X (.Return none pos) (tS g W sRetNone) := PS.imp ps_retN fun Dn σ H ⟨B, st, Hs, o, G, e, k⟩ => by
  cases e
  exact k .non Hs H G.lt rfl
/-! ### targets -/
def tG (g : G) (b : D → S → Option S) : TG := fun v σ H Q => ∃ B st Hs d st', Good g B st σ Hs H ∧ Rep g Hs d v ∧ b d st = some st' ∧ ∀ σ' Hs' H', Same Hs Hs' → Good g B st' σ' Hs' H' → Q σ' H'
def bName (i : Nat) : D → S → Option S := fun d st => some (st.set i (.val d))
theorem fg_name (i : Nat) (hN : X.N.Nodup) (hi : X.N[i]? = some x := by rfl) (hx : Loc X.env.scope x := by first | exact Or.inl rfl | exact Or.inr rfl) (hf : X.fn x = true ∨ X.env.scope.names.lookup x = some .local := by first | exact .inl rfl | exact .inr rfl) :
    PG X (.Name x pos) (tG g (bName i)) := PG.imp (pg_name hN hi hx hf) fun v σ H Q ⟨B, st, Hs, d, st', G, r, e, k⟩ => by
  cases e
  exact k _ Hs H (Same.refl _) (G.set r)
/-- several names -/
def bNames : List Nat → List D → S → Option S
  | [], [], st => some st
  | i :: is, d :: ds, st => bNames is ds (st.set i (.val d))
  | _, _, _ => none
def tGs (g : G) (is : List Nat) : TGs := fun vs σ H Q => ∃ B st Hs ds st', Good g B st σ Hs H ∧ RepL g Hs ds vs ∧ bNames is ds st = some st' ∧ ∀ σ' Hs' H', Same Hs Hs' → Good g B st' σ' Hs' H' → Q σ' H'
theorem PGs.imp {tg : List Expr} {t t' : TGs} (h : PGs X tg t) (i : ∀ v σ H Q, t' v σ H Q → t v σ H Q) : PGs X tg t' := ⟨fun pins s σ H v u Q I r q => h.run pins s σ H v u Q I r (i v σ H Q q)⟩
theorem fgs_nil : PGs X [] (tGs g []) := PGs.imp pgs_nil fun vs σ H Q ⟨B, st, Hs, ds, st', G, r, e, k⟩ => by
  cases ds with
  | nil =>
    cases e
    exact ⟨r, k σ Hs H (Same.refl _) G⟩
  | cons d ds => cases e
theorem fgs_cons (i : Nat) {is : List Nat} {es : List Expr} (hN : X.N.Nodup) (h : PGs X es (tGs g is)) (hi : X.N[i]? = some x := by rfl) (hx : Loc X.env.scope x := by first | exact Or.inl rfl | exact Or.inr rfl)
    (hf : X.fn x = true ∨ X.env.scope.names.lookup x = some .local := by first | exact .inl rfl | exact .inr rfl)
    (hs : (assignEach (.Name x pos :: es) X.env).map (·.2) = assign (.Name x pos) X.env :: (assignEach es X.env).map (·.2) := by rfl) : PGs X (.Name x pos :: es) (tGs g (i :: is)) :=
  PGs.imp (pgs_cons (pg_name hN hi hx hf) h hs) fun vs σ H Q ⟨B, st, Hs, ds, st', G, r, e, k⟩ => by
  cases ds with
  | nil => cases e
  | cons d ds =>
    obtain ⟨v, rs, h1, h2, h3⟩ := r
    exact ⟨v, rs, h1, B, _, Hs, ds, st', G.set h2, h3, e, k⟩
def bTup (is : List Nat) : D → S → Option S := fun d st => match d with
  | .tup ds => bNames is ds st
  | _ => none
theorem bNames_len : ∀ {is : List Nat} {ds : List D} {st st' : S}, bNames is ds st = some st' → ds.length = is.length
  | [], [], _, _, _ => rfl
  | [], _ :: _, _, _, h => by cases h
  | _ :: _, [], _, _, h => by cases h
  | _ :: is, _ :: ds, _, _, h => by rw [List.length_cons, List.length_cons, bNames_len (is := is) (ds := ds) h]
theorem fg_tup {es : List Expr} {kk : Nat} {is : List Nat} (hK : g.K = X.K) (hc : X.calm = true) (h : PGs X es (tGs g is)) (hn : (assignEach es X.env).length = is.length := by rfl) (hst : (assignEach es X.env).findIdx? (·.1) = none := by rfl) :
    PG X (.Tuple es kk pos) (tG g (bTup is)) := PG.imp (pg_tup hc h hn hst) fun v σ H Q ⟨B, st, Hs, d, st', G, r, e, k⟩ => by
  cases d with
  | tup ds =>
    obtain ⟨a, vs, h1, h2, h3⟩ := r
    rw [hK] at h2
    exact ⟨a, vs, h1, sqT_same G.sh h2, by rw [← h3.len]; exact bNames_len e, B, st, Hs, ds, st', G, h3, e, k⟩
  | _ => cases e
/-- a, b = e -/
def sUnp (is : List Nat) (f : S → Rs D) : S → Option Out := fun st => stR (f st) st fun d => (bTup is d st).map Out.nx
theorem fs_unp {es : List Expr} {kk : Nat} {is : List Nat} {tpos : Pos} {f : S → Rs D} (hK : g.K = X.K) (hc : X.calm = true) (he : PE X e (tF g W f)) (h : PGs X es (tGs g is)) (hn : (assignEach es X.env).length = is.length := by rfl) (hst : (assignEach es X.env).findIdx? (·.1) = none := by rfl)
    (hs : swapsWithSole [.Tuple es kk tpos] e pos.line X.env = pure false := by rfl) (hw : swappedStores [.Tuple es kk tpos] e X.env = pure none := by rfl)
    (h1 : (assignEach [.Tuple es kk tpos] X.env).map (·.2) = [assign (.Tuple es kk tpos) X.env] := by rfl) :
    PS X (.Assign [.Tuple es kk tpos] e pos) (tS g W (sUnp is f)) := PS.imp (ps_asg he (fg_tup hK hc h hn hst) hs hw h1) fun Dn σ H ⟨B, st, Hs, o, G, e, k⟩ => by
  refine ⟨B, st, Hs, G, (stR_go G e k).imp fun d q v Hs1 H1 l r => ?_⟩
  obtain ⟨st', q1, q2⟩ := Option.map_eq_some_iff.mp q
  cases q2
  exact ⟨B, st, Hs1, d, st', G.later l, r, q1, fun σ' Hs' H' s1 G1 => k σ' Hs' H' (l.ss.trans s1) G1⟩
/-! ### what is walked -/
def Walks (g : G) (J : It) (items : List D) (Hs : Hp) : Prop := ∀ (i : Nat) (Hs2 H2 : Hp), Same Hs Hs2 → Same Hs2 H2 → (i < items.length → J.go i H2) ∧ (items.length ≤ i → J.stop i H2) ∧
  ∀ x H3 d, items[i]? = some d → J.yld i H2 x H3 → ∃ Hs3, Lt Hs2 H2 Hs3 H3 ∧ Rep g Hs3 d x
def tI (g : G) (W : WX) (f : S → Rs (List D)) : TI := fun σ H R => ∃ B st Hs, Good g B st σ Hs H ∧ Rz g W σ Hs H (f st) fun items => ∀ J Hs' H', Lt Hs H Hs' H' → Walks g J items Hs' → R J H'
theorem walks_list {g : G} {a : Addr} {vs : List V} {ds : List D} {Hs : Hp} (h : SqL g.K Hs a vs) (hu : ∀ H ws, Same Hs H → SqL g.K H a ws → ws[0]? = ws[0]?) (r : RepL g Hs ds vs) : Walks g (Itl g.K a) ds Hs := fun i Hs2 H2 s1 s2 => by
  have hq : SqL g.K H2 a vs := s2.seq (s1.seq h)
  refine ⟨fun hi => ?_, fun hi => ⟨vs, hq, by rw [← r.len]; exact hi⟩, fun x H3 d hd y => ?_⟩
  · have hv : i < vs.length := by rw [← r.len]; exact hi
    exact ⟨vs, vs[i], hq, List.getElem?_eq_getElem hv⟩
  · obtain ⟨rfl, y⟩ := y
    obtain ⟨v, h1, h2⟩ := r.get hd
    have e := y vs hq
    rw [h1] at e
    cases e
    exact ⟨Hs2, Lt.refl s2, Rep.mono s1 _ _ h2⟩
theorem walks_tup {g : G} {a : Addr} {vs : List V} {ds : List D} {Hs : Hp} (h : SqT g.K Hs a vs) (r : RepL g Hs ds vs) : Walks g (Itt g.K a) ds Hs := fun i Hs2 H2 s1 s2 => by
  have hq : SqT g.K H2 a vs := sqT_same s2 (sqT_same s1 h)
  refine ⟨fun hi => ?_, fun hi => ⟨vs, hq, by rw [← r.len]; exact hi⟩, fun x H3 d hd y => ?_⟩
  · have hv : i < vs.length := by rw [← r.len]; exact hi
    exact ⟨vs, vs[i], hq, List.getElem?_eq_getElem hv⟩
  · obtain ⟨rfl, y⟩ := y
    obtain ⟨v, h1, h2⟩ := r.get hd
    have e := y vs hq
    rw [h1] at e
    cases e
    exact ⟨Hs2, Lt.refl s2, Rep.mono s1 _ _ h2⟩
variable {tg it : Expr}
def fItL (f : S → Rs D) : S → Rs (List D) := fun st => (f st).bind fun x => Rs.ofO (asL x)
theorem asL_rep {g : G} {Hs : Hp} {x : D} {ds : List D} {v : V} (e : asL x = some ds) (r : Rep g Hs x v) : ∃ a vs, v = .ref a ∧ SqL g.K Hs a vs ∧ RepL g Hs ds vs := by
  cases x with
  | lst es =>
    cases e
    obtain ⟨a, vs, h1, h2, h3⟩ := r
    exact ⟨a, vs, h1, SqL.of h2, h3⟩
  | scr ns =>
    cases e
    obtain ⟨a, h1, h2⟩ := r
    exact ⟨a, _, h1, h2, RepL.ints ns⟩
  | _ => cases e
theorem fi_list {f : S → Rs D} (hK : g.K = X.K) (h : PE X it (tF g W f)) : PI X tg it (tI g W (fItL f)) := PI.imp (pi_list h) fun σ H R ⟨B, st, Hs, G, q⟩ => by
  refine ⟨B, st, Hs, G, (Rz.bind q).imp fun x k v Hs1 H1 l r => ?_⟩
  obtain ⟨ds, e, k⟩ := Rz.ofO k
  obtain ⟨a, vs, h1, h2, h3⟩ := asL_rep e r
  refine ⟨a, h1, ⟨vs, ?_⟩, ?_⟩
  · rw [← hK]
    exact l.sh.seq h2
  · rw [← hK]
    exact k _ Hs1 H1 l (walks_list h2 (fun _ _ _ _ => rfl) h3)
def fItT (f : S → Rs D) : S → Rs (List D) := fun st => (f st).bind fun x => match x with
  | .tup ds => .ok ds
  | _ => .bad
theorem fi_tup {f : S → Rs D} (hK : g.K = X.K) (h : PE X it (tF g W f)) : PI X tg it (tI g W (fItT f)) := PI.imp (pi_tup h) fun σ H R ⟨B, st, Hs, G, q⟩ => by
  refine ⟨B, st, Hs, G, (Rz.bind q).imp fun x k v Hs1 H1 l r => ?_⟩
  cases x with
  | tup ds =>
    obtain ⟨a, vs, h1, h2, h3⟩ := r
    refine ⟨a, h1, ⟨vs, ?_⟩, ?_⟩
    · rw [← hK]
      exact sqT_same l.sh h2
    · rw [← hK]
      exact k _ Hs1 H1 l (walks_tup h2 h3)
  | _ => exact False.elim k
/-- ranges -/
def rangeD (lo : Int) (n : Nat) : List D := (List.range n).map fun i => D.int (lo + (i : Nat))
theorem rangeD_get {lo : Int} {n i : Nat} {d : D} (h : (rangeD lo n)[i]? = some d) : i < n ∧ d = .int (lo + (i : Nat)) := by
  unfold rangeD at h
  rw [List.getElem?_map] at h
  by_cases hi : i < n
  · rw [List.getElem?_range hi] at h
    exact ⟨hi, (Option.some.inj h).symm⟩
  · rw [List.getElem?_eq_none (by rw [List.length_range]; omega)] at h
    cases h
theorem rangeD_length (lo : Int) (n : Nat) : (rangeD lo n).length = n := by
  unfold rangeD
  rw [List.length_map, List.length_range]
theorem walks_range {g : G} {lo : Int} {n : Nat} {Hs : Hp} : Walks g (Itr lo n) (rangeD lo n) Hs := fun i Hs2 H2 s1 s2 => by
  refine ⟨fun hi => by rw [rangeD_length] at hi; exact hi, fun hi => by rw [rangeD_length] at hi; exact hi, fun x H3 d hd y => ?_⟩
  obtain ⟨rfl, rfl⟩ := y
  obtain ⟨hi, rfl⟩ := rangeD_get hd
  exact ⟨Hs2, Lt.refl s2, rfl⟩
def inRng (i : Int) : Bool := decide (-(2 ^ 62) ≤ i) && decide (i < 2 ^ 62)
theorem inRng_of {i : Int} (h : inRng i = true) : -(2 ^ 62) ≤ i ∧ i < 2 ^ 62 := by
  unfold inRng at h
  rw [Bool.and_eq_true] at h
  exact ⟨of_decide_eq_true h.1, of_decide_eq_true h.2⟩
def dRange1 : List D → Rs (List D)
  | [.int j] => if inRng j = true then .ok (rangeD 0 j.toNat) else .bad
  | _ => .bad
def dRange2 : List D → Rs (List D)
  | [.int i, .int j] => if (inRng i && inRng j) = true then .ok (rangeD i (j - i).toNat) else .bad
  | _ => .bad
def fIt (op : List D → Rs (List D)) (f : S → Rs (List D)) : S → Rs (List D) := fun st => (f st).bind op
theorem fi_range1 {a : Expr} {p : Pos} {f : S → Rs (List D)} (hg : Gl X "range") (hm : X.mg "range" = none) (ha : PA X [a] (tA g W f)) (hs : starEach [a] X.env = [(false, eval a X.env)] := by rfl) :
    PI X tg (.Call (.Name "range" p) [a] [] pos) (tI g W (fIt dRange1 f)) := PI.imp (pi_range1 hg hm ha hs) fun σ H R ⟨B, st, Hs, G, q⟩ => by
  refine ⟨B, st, Hs, G, (Rz.bind q).imp fun ds k vs Hs1 H1 l r => ?_⟩
  unfold dRange1 at k
  split at k
  · rename_i j
    split at k
    · rename_i hj
      obtain ⟨v, r1, e1, e2, e3⟩ := r
      cases e2
      cases e3
      subst e1
      exact ⟨j, rfl, (inRng_of hj).1, (inRng_of hj).2, k _ Hs1 H1 l walks_range⟩
    · exact False.elim k
  · exact False.elim k
theorem fi_range2 {a b : Expr} {p : Pos} {f : S → Rs (List D)} (hg : Gl X "range") (hm : X.mg "range" = none) (ha : PA X [a, b] (tA g W f)) (hs : starEach [a, b] X.env = [(false, eval a X.env), (false, eval b X.env)] := by rfl) (hs2 : starEach [b] X.env = [(false, eval b X.env)] := by rfl) :
    PI X tg (.Call (.Name "range" p) [a, b] [] pos) (tI g W (fIt dRange2 f)) := PI.imp (pi_range2 hg hm ha hs hs2) fun σ H R ⟨B, st, Hs, G, q⟩ => by
  refine ⟨B, st, Hs, G, (Rz.bind q).imp fun ds k vs Hs1 H1 l r => ?_⟩
  unfold dRange2 at k
  split at k
  · rename_i i j
    split at k
    · rename_i hj
      rw [Bool.and_eq_true] at hj
      obtain ⟨v, r1, e1, e2, e3⟩ := r
      obtain ⟨v2, r2, e4, e5, e6⟩ := e3
      cases e2
      cases e5
      cases e6
      subst e4
      subst e1
      exact ⟨i, j, rfl, ⟨(inRng_of hj.1).1, (inRng_of hj.1).2, (inRng_of hj.2).1, (inRng_of hj.2).2⟩, k _ Hs1 H1 l walks_range⟩
    · exact False.elim k
  · exact False.elim k
/-- zip of two lists -/
def zipD (xs ys : List D) : List D := (xs.zip ys).map fun p => .tup [p.1, p.2]
theorem zipD_get {xs ys : List D} {i : Nat} {d : D} (h : (zipD xs ys)[i]? = some d) : ∃ x y, xs[i]? = some x ∧ ys[i]? = some y ∧ d = .tup [x, y] := by
  unfold zipD at h
  rw [List.getElem?_map] at h
  obtain ⟨p, h1, h2⟩ := Option.map_eq_some_iff.mp h
  obtain ⟨x, y⟩ := p
  rw [List.getElem?_zip_eq_some] at h1
  exact ⟨x, y, h1.1, h1.2, h2.symm⟩
theorem zipD_length (xs ys : List D) : (zipD xs ys).length = min xs.length ys.length := by
  unfold zipD
  rw [List.length_map, List.length_zip]
theorem walks_zip {g : G} {a b : Addr} {vs ws : List V} {ds es : List D} {Hs : Hp} (h : SqL g.K Hs a vs) (h' : SqL g.K Hs b ws) (r : RepL g Hs ds vs) (r' : RepL g Hs es ws) : Walks g (Itz g.K a b) (zipD ds es) Hs := fun i Hs2 H2 s1 s2 => by
  have hq : SqL g.K H2 a vs := s2.seq (s1.seq h)
  have hq' : SqL g.K H2 b ws := s2.seq (s1.seq h')
  refine ⟨fun hi => ?_, fun hi => ⟨vs, ws, hq, hq', ?_⟩, fun x H3 d hd y => ?_⟩
  · rw [zipD_length] at hi
    have hv : i < vs.length := by rw [← r.len]; omega
    have hw : i < ws.length := by rw [← r'.len]; omega
    exact ⟨vs, ws, vs[i], ws[i], hq, hq', List.getElem?_eq_getElem hv, List.getElem?_eq_getElem hw⟩
  · rw [zipD_length] at hi
    rw [← r.len, ← r'.len]
    omega
  · obtain ⟨T, u, w, rfl, nT, rfl, y1, y2⟩ := y
    obtain ⟨dx, dy, e1, e2, rfl⟩ := zipD_get hd
    obtain ⟨v1, q1, q2⟩ := r.get e1
    obtain ⟨v2, q3, q4⟩ := r'.get e2
    have z1 := y1 vs hq
    have z2 := y2 ws hq'
    rw [q1] at z1
    rw [q3] at z2
    cases z1
    cases z2
    have n := Lt.new (o := .tup [u, w]) s2 nT
    exact ⟨_, n, T, [u, w], rfl, SqT.of upd_same, u, [w], rfl, Rep.mono n.ss _ _ (Rep.mono s1 _ _ q2), w, [], rfl, Rep.mono n.ss _ _ (Rep.mono s1 _ _ q4), rfl⟩
def dZip : List D → Rs (List D)
  | [a, b] => match asL a, asL b with
    | some xs, some ys => .ok (zipD xs ys)
    | _, _ => .bad
  | _ => .bad
theorem fi_zip {e1 e2 : Expr} {p tpos : Pos} {elts : List Expr} {kk : Nat} {f : S → Rs (List D)} (hK : g.K = X.K) (hg : Gl X "zip") (hm : X.mg "zip" = none) (ha : PA X [e1, e2] (tA g W f))
    (hs : starEach [e1, e2] X.env = (false, eval e1 X.env) :: starEach [e2] X.env := by rfl) (hpl : (backTo pos (starEach [e2] X.env)).any (·.1) = false := by rfl) :
    PI X (.Tuple elts kk tpos) (.Call (.Name "zip" p) [e1, e2] [] pos) (tI g W (fIt dZip f)) := PI.imp (pi_zip hg hm ha hs hpl) fun σ H R ⟨B, st, Hs, G, q⟩ => by
  refine ⟨B, st, Hs, G, (Rz.bind q).imp fun ds k vs Hs1 H1 l r => ?_⟩
  unfold dZip at k
  split at k
  · rename_i a b
    split at k
    · rename_i xs ys ex ey
      obtain ⟨v, r1, z1, z2, z3⟩ := r
      obtain ⟨v2, r2, z4, z5, z6⟩ := z3
      cases z6
      subst z4
      subst z1
      obtain ⟨a1, vs1, h1, h2, h3⟩ := asL_rep ex z2
      obtain ⟨a2, vs2, h4, h5, h6⟩ := asL_rep ey z5
      subst h1
      subst h4
      refine ⟨a1, a2, vs1, vs2, rfl, ?_, ?_, ?_⟩
      · rw [← hK]
        exact l.sh.seq h2
      · rw [← hK]
        exact l.sh.seq h5
      · rw [← hK]
        exact k _ Hs1 H1 l (walks_zip h2 h5 h3 h6)
    · exact False.elim k
  · exact False.elim k
/-- a range from its end -/
def rrangeD (lo : Int) (n : Nat) : List D := (List.range n).map fun i => D.int (lo + (n : Nat) - 1 - (i : Nat))
theorem walks_rrange {g : G} {a : Int} {n : Nat} {Hs : Hp} : Walks g (Itc (a + (n : Nat) - 1) (-1) n) (rrangeD a n) Hs := fun i Hs2 H2 s1 s2 => by
  have hl : (rrangeD a n).length = n := by unfold rrangeD; rw [List.length_map, List.length_range]
  refine ⟨fun hi => by rw [hl] at hi; exact hi, fun hi => by rw [hl] at hi; exact hi, fun x H3 d hd y => ?_⟩
  obtain ⟨rfl, rfl⟩ := y
  unfold rrangeD at hd
  rw [List.getElem?_map] at hd
  by_cases hi : i < n
  · rw [List.getElem?_range hi] at hd
    cases hd
    refine ⟨Hs2, Lt.refl s2, ?_⟩
    show V.int _ = V.int _
    congr 1
    omega
  · rw [List.getElem?_eq_none (by rw [List.length_range]; omega)] at hd
    cases hd
/-! ### for -/
def forL (b : D → S → Option S) (f : S → Option Out) : List D → S → Option Out
  | [], st => some (.nx st)
  | d :: ds, st => (b d st).bind fun s1 => (f s1).bind fun o => match o with
    | .nx s => forL b f ds s
    | .ct s => forL b f ds s
    | .bk s => some (.nx s)
    | o => some o
def sFor (fi : S → Rs (List D)) (b : D → S → Option S) (f : S → Option Out) : S → Option Out := fun st => stR (fi st) st fun items => forL b f items st
theorem fs_for {body : List Stmt} {fi : S → Rs (List D)} {b : D → S → Option S} {f : S → Option Out} (hp : PassesOwn (model X.prog X.w) X.A X.env X.xe) (hc : X.calm = true) (hi : PI X tg it (tI g W fi)) (hg : PG X tg (tG g b)) (hb : PSs X body (tS g W f)) (hs : ∀ x, foldedSetIterable it X.env x = pure x := by intro _; rfl) :
    PS X (.For tg it body [] pos) (tS g W (sFor fi b f)) := PS.imp (ps_for hp hc hi hg hb hs) fun Dn σ H ⟨B, st, Hs, o, G, e, k⟩ => by
  refine ⟨B, st, Hs, G, (stR_go G e k).imp fun items q J Hs1 H1 l wk => ?_⟩
  refine ⟨fun i m σ H => i ≤ items.length ∧ m = items.length - i ∧ ∃ st' Hs', Good g B st' σ Hs' H ∧ Same Hs1 Hs' ∧ forL b f (items.drop i) st' = some o, ⟨items.length, Nat.zero_le _, rfl, st, Hs1, G.later l, Same.refl _, q⟩, ?_⟩
  rintro i m σ H ⟨hi, rfl, st', Hs', G', s', q'⟩
  obtain ⟨w1, w2, w3⟩ := wk i Hs' H s' G'.sh
  by_cases hlt : i < items.length
  · refine .inr ⟨w1 hlt, ?_⟩
    have ed : items.drop i = items[i] :: items.drop (i + 1) := List.drop_eq_getElem_cons hlt
    rw [ed] at q'
    obtain ⟨s1, q1, q2⟩ := Option.bind_eq_some_iff.mp q'
    obtain ⟨o1, q3, q4⟩ := Option.bind_eq_some_iff.mp q2
    refine ⟨fun σ' H' => ∃ st2 Hs2, Good g B st2 σ' Hs2 H' ∧ Same Hs1 Hs2 ∧ forL b f (items.drop (i + 1)) st2 = some o, fun σ' H' ⟨st2, Hs2, G2, s2, q5⟩ => ⟨items.length - (i + 1), by omega, hlt, rfl, st2, Hs2, G2, s2, q5⟩, fun x H' y => ?_⟩
    obtain ⟨Hs3, l3, r3⟩ := w3 x H' items[i] (List.getElem?_eq_getElem hlt) y
    refine ⟨B, st', Hs3, items[i], s1, G'.later l3, r3, q1, fun σ2 Hs4 H4 s4 G4 => ?_⟩
    refine ⟨B, s1, Hs4, o1, G4, q3, ?_⟩
    have s14 : Same Hs1 Hs4 := s'.trans (l3.ss.trans s4)
    cases o1 with
    | nx s => exact fun σ' Hs' H' s5 G5 => ⟨s, Hs', G5, s14.trans s5, q4⟩
    | ct s => exact fun σ' Hs' H' s5 G5 => ⟨s, Hs', G5, s14.trans s5, q4⟩
    | bk s =>
      cases q4
      exact fun σ' Hs' H' s5 G5 => k σ' Hs' H' (l.ss.trans (s14.trans s5)) G5
    | rt d =>
      cases q4
      exact k
    | rtN ds =>
      cases q4
      exact k
    | xr c n s =>
      cases q4
      exact fun d' σ' Hs' H' Hx s5 => k d' σ' Hs' H' Hx (l.ss.trans (s14.trans s5))
  · have e2 : i = items.length := by omega
    subst e2
    rw [List.drop_length] at q'
    cases q'
    exact .inl ⟨w2 (Nat.le_refl _), k σ Hs' H (l.ss.trans s') G'⟩
/-- for over an own list that the body leaves alone -/
def noPin : S → Bool
  | [] => true
  | .pin :: _ => false
  | _ :: s => noPin s
theorem noPin_get : ∀ {s : S} {j : Nat}, noPin s = true → s[j]? ≠ some .pin
  | [], _, _ => by simp
  | .pin :: _, _, h => by cases h
  | .un :: s, 0, _ => by simp
  | .val _ :: s, 0, _ => by simp
  | .own _ :: s, 0, _ => by simp
  | .un :: s, j + 1, h => noPin_get (s := s) (j := j) h
  | .val _ :: s, j + 1, h => noPin_get (s := s) (j := j) h
  | .own _ :: s, j + 1, h => noPin_get (s := s) (j := j) h
def backO (i : Nat) (ds : List D) (s : S) : Option S := match s[i]? with
  | some .pin => if noPin (s.set i (.own ds)) = true then some (s.set i (.own ds)) else none
  | _ => none
def sForO (i : Nat) (b : D → S → Option S) (f : S → Option Out) : S → Option Out := fun st => match st[i]? with
  | some (.own ds) => (forL b f ds (st.set i .pin)).bind fun o => match o with
    | .nx s => (backO i ds s).map Out.nx
    | .rt d => some (.rt d)
    | .rtN es => some (.rtN es)
    | .xr c n s => (backO i ds s).map (Out.xr c n)
    | _ => none
  | _ => none
theorem Good.toPin {g : G} {B : Bs} {st : S} {σ : L2.St} {Hs H : Hp} (G : Good g B st σ Hs H) {i : Nat} {ds : List D} {a : Addr} {vs : List V} (hi : st[i]? = some (.own ds)) (h1 : σ[i]? = some (some (.ref a))) (h2 : Hs a = none) (h3 : B.b2 a = none) (h4 : H a = some (.lst vs)) :
    Good g ⟨B.b1, upd B.b2 a (.lst vs), σ⟩ (st.set i .pin) σ Hs H where
  lt := ⟨G.lt.ss, G.lt.sh, fun b o (e : (upd B.b2 a (.lst vs)) b = some o) => by
      by_cases z : b = a
      · subst z
        rw [upd_same] at e
        cases e
        exact h4
      · rw [upd_ne z] at e
        exact G.lt.hh b o e, fun b o (e : (upd B.b2 a (.lst vs)) b = some o) n => by
      by_cases z : b = a
      · subst z
        exact h2
      · rw [upd_ne z] at e
        exact G.lt.np b o e n⟩
  len := by rw [List.length_set, G.len]
  val := fun j e q => by
    rcases getElem?_set_eq q with ⟨rfl, e1, hl⟩ | ⟨ne, q⟩
    · cases e1
    · exact G.val j e q
  own := fun j es q => by
    rcases getElem?_set_eq q with ⟨rfl, e1, hl⟩ | ⟨ne, q⟩
    · cases e1
    · obtain ⟨l, ws, q1, q2, q3, q4, q5⟩ := G.own j es q
      have nl : l ≠ a := fun z => by
        subst z
        exact ne (G.dis i j ds es l hi q h1 q1)
      exact ⟨l, ws, q1, q2, by show (upd B.b2 a (.lst vs)) l = none; rw [upd_ne nl]; exact q3, q4, q5⟩
  pin := fun j q => rfl
  dis := fun j k es fs l q1 q2 s1 s2 => by
    rcases getElem?_set_eq q1 with ⟨rfl, e1, _⟩ | ⟨_, q1⟩
    · cases e1
    · rcases getElem?_set_eq q2 with ⟨rfl, e1, _⟩ | ⟨_, q2⟩
      · cases e1
      · exact G.dis j k es fs l q1 q2 s1 s2
theorem Lt.unpin {B : Bs} {a : Addr} {vs : List V} {σ : L2.St} {Hs H : Hp} (h3 : B.b2 a = none) (l : Lt (Bs.mk B.b1 (upd B.b2 a (.lst vs)) σ).b1 (Bs.mk B.b1 (upd B.b2 a (.lst vs)) σ).b2 Hs H) : Lt B.b1 B.b2 Hs H :=
  ⟨l.ss, l.sh, (same_upd h3).trans l.hh, fun b o e n => l.np b o (same_upd h3 b o e) n⟩
theorem Good.unPin {g : G} {B : Bs} {st0 st st' : S} {σ0 σ : L2.St} {Hs0 H0 Hs H : Hp} (G0 : Good g B st0 σ0 Hs0 H0) {i : Nat} {ds : List D} {a : Addr} {vs : List V} (h1 : σ0[i]? = some (some (.ref a))) (h2 : Hs0 a = none) (h3 : B.b2 a = none) (r : RepL g Hs0 ds vs)
    (s : Same Hs0 Hs) (G : Good g ⟨B.b1, upd B.b2 a (.lst vs), σ0⟩ st σ Hs H) (hb : backO i ds st = some st') : Good g B st' σ Hs H := by
  unfold backO at hb
  split at hb
  · rename_i hi
    split at hb
    rotate_left
    · cases hb
    rename_i np
    cases hb
    have hs : σ[i]? = some (some (.ref a)) := (G.pin i hi).trans h1
    have ha : Hs a = none := by
      refine G.lt.np a (.lst vs) upd_same ?_
      exact G0.lt.ss.free h2
    refine ⟨Lt.unpin h3 G.lt, by rw [List.length_set, G.len], fun j e q => ?_, fun j es q => ?_, fun j q => ?_, fun j k es fs l q1 q2 s1 s2 => ?_⟩
    · rcases getElem?_set_eq q with ⟨rfl, e1, hl⟩ | ⟨ne, q⟩
      · cases e1
      · exact G.val j e q
    · rcases getElem?_set_eq q with ⟨rfl, e1, hl⟩ | ⟨ne, q⟩
      · cases e1
        exact ⟨a, vs, hs, ha, h3, G.lt.hh a _ upd_same, RepL.mono s _ _ r⟩
      · obtain ⟨l, ws, q1, q2, q3, q4, q5⟩ := G.own j es q
        exact ⟨l, ws, q1, q2, (same_upd h3).free q3, q4, q5⟩
    · rcases getElem?_set_eq q with ⟨rfl, e1, hl⟩ | ⟨ne, q⟩
      · cases e1
      · exact absurd (by rw [set_other ne]; exact q) (noPin_get (j := j) np)
    · have away : ∀ (j : Nat) (es : List D), st[j]? = some (.own es) → σ[j]? ≠ some (some (.ref a)) := fun j es q z => by
        obtain ⟨l, ws, q1, q2, q3, q4, q5⟩ := G.own j es q
        rw [z] at q1
        cases q1
        have q3 : (upd B.b2 a (.lst vs)) a = none := q3
        rw [upd_same] at q3
        cases q3
      rcases getElem?_set_eq q1 with ⟨rfl, e1, _⟩ | ⟨n1, q1⟩
      · rcases getElem?_set_eq q2 with ⟨rfl, e2, _⟩ | ⟨n2, q2⟩
        · rfl
        · rw [hs] at s1
          cases s1
          exact absurd s2 (away k fs q2)
      · rcases getElem?_set_eq q2 with ⟨rfl, e2, _⟩ | ⟨n2, q2⟩
        · rw [hs] at s2
          cases s2
          exact absurd s1 (away j es q1)
        · exact G.dis j k es fs l q1 q2 s1 s2
  · cases hb
theorem fs_forO (i : Nat) {body : List Stmt} {npos : Pos} {b : D → S → Option S} {f : S → Option Out} (hK : g.K = X.K) (hp : PassesOwn (model X.prog X.w) X.A X.env X.xe) (hc : X.calm = true) (hg : PG X tg (tG g b)) (hb : PSs X body (tS g W f))
    (hN : X.N[i]? = some x := by rfl) (hv : Vis X.env.scope x := by first | exact Or.inl rfl | exact Or.inr (Or.inl rfl) | exact Or.inr (Or.inr rfl)) (hd : (x == ("__debug__" : Str)) = false := by decide) (hcd : (x == ("__classdict__" : Str)) = false := by decide)
    (hs : ∀ y, foldedSetIterable (.Name x npos) X.env y = pure y := by intro _; rfl) :
    PS X (.For tg (.Name x npos) body [] pos) (tS g W (sForO i b f)) := PS.imp (ps_for hp hc (pi_list (pe_var hN hv hd hcd)) hg hb hs) fun Dn σ H ⟨B, st, Hs, o, G, e, k⟩ => by
  unfold sForO at e
  split at e
  rotate_left
  · cases e
  rename_i ds hi
  obtain ⟨o1, e, e1⟩ := Option.bind_eq_some_iff.mp e
  obtain ⟨a, vs, h1, h2, h3, h4, h5⟩ := G.own i ds hi
  refine ⟨.ref a, h1, a, rfl, ⟨vs, SqL.of h4⟩, ?_⟩
  have GP := G.toPin hi h1 h2 h3 h4
  -- what follows, seen from within
  have kk : EndOk g ⟨B.b1, upd B.b2 a (.lst vs), σ⟩ W Hs { Dn with nx := fun σ' H' => Dn.nx σ' H', bk := fun _ _ => False, ct := fun _ _ => False } o1 := by
    cases o1 with
    | nx s =>
      obtain ⟨s', q1, q2⟩ := Option.map_eq_some_iff.mp e1
      cases q2
      exact fun σ' Hs' H' s1 G1 => k σ' Hs' H' s1 (Good.unPin G h1 h2 h3 h5 s1 G1 q1)
    | rt d =>
      cases e1
      exact fun v Hs' H' l r => k v Hs' H' (l.unpin h3) r
    | rtN es =>
      cases e1
      exact fun p ws Hs' H' n l n1 hp r => k p ws Hs' H' ((same_upd h3).free n) (l.unpin h3) n1 hp r
    | xr c n s =>
      obtain ⟨s', q1, q2⟩ := Option.map_eq_some_iff.mp e1
      cases q2
      exact fun d' σ' Hs' H' Hx s1 G1 lx x => k d' σ' Hs' H' Hx s1 (Good.unPin G h1 h2 h3 h5 s1 G1 q1) lx x
    | bk s => cases e1
    | ct s => cases e1
  refine ⟨fun i m σ' H => i ≤ ds.length ∧ m = ds.length - i ∧ ∃ st' Hs', Good g ⟨B.b1, upd B.b2 a (.lst vs), σ⟩ st' σ' Hs' H ∧ Same Hs Hs' ∧ forL b f (ds.drop i) st' = some o1, ⟨ds.length, Nat.zero_le _, rfl, _, Hs, GP, Same.refl _, e⟩, ?_⟩
  rintro j m σ1 H1 ⟨hj, rfl, st', Hs', G', s', q'⟩
  have hH : H1 a = some (.lst vs) := G'.lt.hh a _ upd_same
  have hl := h5.len
  by_cases hlt : j < ds.length
  · have hv : j < vs.length := by omega
    refine .inr ⟨⟨vs, vs[j], SqL.of hH, List.getElem?_eq_getElem hv⟩, ?_⟩
    have ed : ds.drop j = ds[j] :: ds.drop (j + 1) := List.drop_eq_getElem_cons hlt
    rw [ed] at q'
    obtain ⟨s1, q1, q2⟩ := Option.bind_eq_some_iff.mp q'
    obtain ⟨o2, q3, q4⟩ := Option.bind_eq_some_iff.mp q2
    refine ⟨fun σ' H' => ∃ st2 Hs2, Good g ⟨B.b1, upd B.b2 a (.lst vs), σ⟩ st2 σ' Hs2 H' ∧ Same Hs Hs2 ∧ forL b f (ds.drop (j + 1)) st2 = some o1, fun σ' H' ⟨st2, Hs2, G2, s2, q5⟩ => ⟨ds.length - (j + 1), by omega, hlt, rfl, st2, Hs2, G2, s2, q5⟩, fun x H' y => ?_⟩
    obtain ⟨rfl, y⟩ := y
    have yv := y vs (SqL.of hH)
    obtain ⟨u, u1, u2⟩ := h5.get (List.getElem?_eq_getElem hlt)
    rw [u1] at yv
    cases yv
    refine ⟨_, st', Hs', ds[j], s1, G', Rep.mono s' _ _ u2, q1, fun σ2 Hs4 H4 s4 G4 => ?_⟩
    refine ⟨_, s1, Hs4, o2, G4, q3, ?_⟩
    have s14 : Same Hs Hs4 := s'.trans s4
    cases o2 with
    | nx s => exact fun σ' Hs' H' s5 G5 => ⟨s, Hs', G5, s14.trans s5, q4⟩
    | ct s => exact fun σ' Hs' H' s5 G5 => ⟨s, Hs', G5, s14.trans s5, q4⟩
    | bk s =>
      cases q4
      exact fun σ' Hs' H' s5 G5 => kk σ' Hs' H' (s14.trans s5) G5
    | rt d =>
      cases q4
      exact kk
    | rtN es =>
      cases q4
      exact kk
    | xr c n s =>
      cases q4
      exact fun d' σ' Hs' H' Hx s5 => kk d' σ' Hs' H' Hx (s14.trans s5)
  · have e2 : j = ds.length := by omega
    subst e2
    rw [List.drop_length] at q'
    cases q'
    exact .inl ⟨⟨vs, SqL.of hH, by omega⟩, kk σ1 Hs' H1 s' G'⟩
/-! own lists read by a comprehension -/
def WalksL (g : G) (J : It) (items : List D) (Hs H : Hp) : Prop := ∀ (i : Nat) (Hs2 H2 : Hp), Lt Hs H Hs2 H2 → (i < items.length → J.go i H2) ∧ (items.length ≤ i → J.stop i H2) ∧
  ∀ x H3 d, items[i]? = some d → J.yld i H2 x H3 → ∃ Hs3, Lt Hs2 H2 Hs3 H3 ∧ Rep g Hs3 d x
def tIR (g : G) (W : WX) (f : S → Rs (List D)) : TI := fun σ H R => ∃ B st Hs, Good g B st σ Hs H ∧ Rz g W σ Hs H (f st) fun items => ∀ J Hs' H', Lt Hs H Hs' H' → WalksL g J items Hs' H' → R J H'
theorem fir_of {f : S → Rs (List D)} (h : PI X tg it (tI g W f)) : PI X tg it (tIR g W f) := PI.imp h fun σ H R ⟨B, st, Hs, G, q⟩ =>
  ⟨B, st, Hs, G, q.imp fun items k J Hs' H' l w => k J Hs' H' l fun i Hs2 H2 l2 => w i Hs2 H2 l2.ss l2.sh⟩
theorem fir_list {f : S → Rs D} (hK : g.K = X.K) (h : PE X it (tR g W f)) : PI X tg it (tIR g W (fItL f)) := PI.imp (pi_list h) fun σ H R ⟨B, st, Hs, G, q⟩ => by
  refine ⟨B, st, Hs, G, (Rz.bind q).imp fun x k v Hs1 H1 l r => ?_⟩
  obtain ⟨ds, e, k⟩ := Rz.ofO k
  obtain ⟨a, vs, h1, h2, h3⟩ := asL_rd e l.sh r
  refine ⟨a, h1, ⟨vs, by rw [← hK]; exact h2⟩, ?_⟩
  rw [← hK]
  refine k _ Hs1 H1 l fun i Hs2 H2 l2 => ?_
  have hq : SqL g.K H2 a vs := l2.hh.seq h2
  refine ⟨fun hi => ?_, fun hi => ⟨vs, hq, by rw [← h3.len]; exact hi⟩, fun x H3 d hd y => ?_⟩
  · have hv : i < vs.length := by rw [← h3.len]; exact hi
    exact ⟨vs, vs[i], hq, List.getElem?_eq_getElem hv⟩
  · obtain ⟨rfl, y⟩ := y
    obtain ⟨u, u1, u2⟩ := h3.get hd
    have e := y vs hq
    rw [u1] at e
    cases e
    exact ⟨Hs2, Lt.refl l2.sh, Rep.mono l2.ss _ _ u2⟩
/-! ### while -/
def whileL (c : S → Rs Bool) (f : S → Option Out) : Nat → S → Option Out
  | 0, _ => none
  | n + 1, st => stR (c st) st fun b => if b = true then (f st).bind fun o => (match o with
    | .nx s => whileL c f n s
    | .ct s => whileL c f n s
    | .bk s => some (.nx s)
    | o => some o) else some (.nx st)
def sWhile (fuel : S → Nat) (c : S → Rs Bool) (f : S → Option Out) : S → Option Out := fun st => whileL c f (fuel st) st
theorem fs_while {c : Expr} {body : List Stmt} (fuel : S → Nat) {fc : S → Rs Bool} {f : S → Option Out} (hp : PassesOwn (model X.prog X.w) X.A X.env X.xe) (hc : PT X c (tT g W fc)) (hb : PSs X body (tS g W f)) :
    PS X (.While c body [] pos) (tS g W (sWhile fuel fc f)) := PS.imp (ps_while hp hc hb) fun Dn σ H ⟨B, st, Hs, o, G, e, k⟩ => by
  refine ⟨fun m σ H => ∃ st' Hs', Good g B st' σ Hs' H ∧ Same Hs Hs' ∧ whileL fc f m st' = some o, ⟨fuel st, st, Hs, G, Same.refl _, e⟩, ?_⟩
  rintro m σ H ⟨st', Hs', G', s', q⟩
  cases m with
  | zero => cases q
  | succ m =>
    refine ⟨B, st', Hs', G', (stR_go G' q (k.same s')).imp fun b q Hs1 H1 l => ?_⟩
    cases b with
    | false =>
      cases q
      exact k σ Hs1 H1 (s'.trans l.ss) (G'.later l)
    | true =>
      obtain ⟨o1, q3, q4⟩ := Option.bind_eq_some_iff.mp q
      refine ⟨fun σ' H' => ∃ st2 Hs2, Good g B st2 σ' Hs2 H' ∧ Same Hs Hs2 ∧ whileL fc f m st2 = some o, fun σ' H' h => ⟨m, Nat.lt_succ_self m, h⟩, ?_⟩
      refine ⟨B, st', Hs1, o1, G'.later l, q3, ?_⟩
      have s14 : Same Hs Hs1 := s'.trans l.ss
      cases o1 with
      | nx s => exact fun σ' Hs' H' s5 G5 => ⟨s, Hs', G5, s14.trans s5, q4⟩
      | ct s => exact fun σ' Hs' H' s5 G5 => ⟨s, Hs', G5, s14.trans s5, q4⟩
      | bk s =>
        cases q4
        exact fun σ' Hs' H' s5 G5 => k σ' Hs' H' (s14.trans s5) G5
      | rt d =>
        cases q4
        exact k
      | rtN ds =>
        cases q4
        exact k
      | xr c n s =>
        cases q4
        exact fun d' σ' Hs' H' Hx s5 => k d' σ' Hs' H' Hx (s14.trans s5)
end
end Fx
set_option Elab.async false
set_option linter.all false
set_option maxRecDepth 100000
set_option maxHeartbeats 4000000
namespace Fx
open PySem L2
/-! ### comprehensions -/
def wipeS (st : S) : List Nat → S
  | [] => st
  | v :: vs => (wipeS st vs).set v .un
theorem Good.setUn {g : G} {B : Bs} {st : S} {σ : L2.St} {Hs H : Hp} (h : Good g B st σ Hs H) (i : Nat) : Good g B (st.set i .un) (σ.set i none) Hs H where
  lt := h.lt
  len := by rw [List.length_set, List.length_set, h.len]
  val := fun j e q => by
    rcases getElem?_set_eq q with ⟨rfl, e1, hl⟩ | ⟨ne, q⟩
    · cases e1
    · obtain ⟨u, h1, h2⟩ := h.val j e q
      exact ⟨u, by rw [set_other ne]; exact h1, h2⟩
  own := fun j ds q => by
    rcases getElem?_set_eq q with ⟨rfl, e1, hl⟩ | ⟨ne, q⟩
    · cases e1
    · obtain ⟨l, vs, h1, h2⟩ := h.own j ds q
      exact ⟨l, vs, by rw [set_other ne]; exact h1, h2⟩
  pin := fun j q => by
    rcases getElem?_set_eq q with ⟨rfl, e1, hl⟩ | ⟨ne, q⟩
    · cases e1
    · rw [set_other ne]
      exact h.pin j q
  dis := fun j k ds es l q1 q2 s1 s2 => by
    rcases getElem?_set_eq q1 with ⟨rfl, e1, hl⟩ | ⟨ne1, q1⟩
    · cases e1
    · rcases getElem?_set_eq q2 with ⟨rfl, e1, hl⟩ | ⟨ne2, q2⟩
      · cases e1
      · rw [set_other ne1] at s1
        rw [set_other ne2] at s2
        exact h.dis j k ds es l q1 q2 s1 s2
theorem Good.wipe {g : G} {B : Bs} {st : S} {σ : L2.St} {Hs H : Hp} (h : Good g B st σ Hs H) : ∀ vs : List Nat, Good g B (wipeS st vs) (L2.wipe σ vs) Hs H
  | [] => h
  | v :: vs => (Good.wipe h vs).setUn v
theorem wipe_get (σ : L2.St) (k : Nat) : ∀ vs : List Nat, (L2.wipe σ vs)[k]? = if k ∈ vs then (if k < σ.length then some none else none) else σ[k]?
  | [] => by simp [L2.wipe]
  | v :: vs => by
    unfold L2.wipe
    by_cases e : v = k
    · subst e
      rw [if_pos List.mem_cons_self]
      by_cases hl : v < σ.length
      · rw [if_pos hl, List.getElem?_set_self (by rw [wipe_length]; exact hl)]
      · rw [if_neg hl, List.getElem?_eq_none (by rw [List.length_set, wipe_length]; omega)]
    · rw [List.getElem?_set_ne e, wipe_get σ k vs]
      by_cases hm : k ∈ vs
      · rw [if_pos hm, if_pos (List.mem_cons_of_mem _ hm)]
      · rw [if_neg hm, if_neg (by
          intro z
          rcases List.mem_cons.mp z with z | z
          · exact e z.symm
          · exact hm z)]
theorem wipe_set {σ : L2.St} {i : Nat} {x : Option V} {vs : List Nat} (h : i ∈ vs) : L2.wipe (σ.set i x) vs = L2.wipe σ vs := by
  apply List.ext_getElem?
  intro k
  rw [wipe_get, wipe_get, List.length_set]
  by_cases hk : k ∈ vs
  · rw [if_pos hk, if_pos hk]
  · rw [if_neg hk, if_neg hk, List.getElem?_set_ne (fun (z : i = k) => hk (by rw [← z]; exact h))]
theorem wipe_wipe (σ : L2.St) (vs : List Nat) : L2.wipe (L2.wipe σ vs) vs = L2.wipe σ vs := by
  apply List.ext_getElem?
  intro k
  rw [wipe_get (L2.wipe σ vs), wipe_length]
  by_cases hk : k ∈ vs
  · rw [if_pos hk, wipe_get, if_pos hk]
  · rw [if_neg hk]
/-- a target whose names are the block's own -/
def BW (g : G) (vs : List Nat) (b : D → S → Option S) (t : TG) : Prop := ∀ (B : Bs) (st : S) (σ : L2.St) (Hs H : Hp) (d : D) (v : V) (st1 : S) (Q : L2.St → Hp → Prop), Good g B st σ Hs H → Rep g Hs d v → b d st = some st1 →
  (∀ σ1, Good g B st1 σ1 Hs H → L2.wipe σ1 vs = L2.wipe σ vs → Q σ1 H) → t v σ H Q
theorem bw_name {g : G} {vs : List Nat} (j : Nat) (hj : j ∈ vs := by decide) : BW g vs (bName j) (gName j) := fun B st σ Hs H d v st1 Q G r e k => by
  cases e
  exact k _ (G.set r) (wipe_set hj)
def gSlots : List Nat → TGs
  | [] => gNil
  | i :: is => gCons (gName i) (gSlots is)
theorem bw_slots {g : G} {vs : List Nat} : ∀ (is : List Nat), (∀ i ∈ is, i ∈ vs) → ∀ (B : Bs) (st : S) (σ : L2.St) (Hs H : Hp) (ds : List D) (ws : List V) (st1 : S) (Q : L2.St → Hp → Prop), Good g B st σ Hs H → RepL g Hs ds ws → bNames is ds st = some st1 →
    (∀ σ1, Good g B st1 σ1 Hs H → L2.wipe σ1 vs = L2.wipe σ vs → Q σ1 H) → gSlots is ws σ H Q
  | [], _, B, st, σ, Hs, H, [], ws, st1, Q, G, r, e, k => by
    cases e
    exact ⟨r, k σ G rfl⟩
  | [], _, B, st, σ, Hs, H, _ :: _, ws, st1, Q, G, r, e, k => by cases e
  | i :: is, hi, B, st, σ, Hs, H, [], ws, st1, Q, G, r, e, k => by cases e
  | i :: is, hi, B, st, σ, Hs, H, d :: ds, ws, st1, Q, G, r, e, k => by
    obtain ⟨v, rs, h1, h2, h3⟩ := r
    refine ⟨v, rs, h1, ?_⟩
    exact bw_slots is (fun j hj => hi j (List.mem_cons_of_mem _ hj)) B _ _ Hs H ds rs st1 Q (G.set h2) h3 e fun σ1 G1 q => k σ1 G1 (q.trans (wipe_set (hi i List.mem_cons_self)))
theorem bw_tup {g : G} {K : PySem.W.Frag} {vs : List Nat} (is : List Nat) (hK : g.K = K) (h : ∀ i ∈ is, i ∈ vs := by decide) : BW g vs (bTup is) (gTup K is.length (gSlots is)) := fun B st σ Hs H d v st1 Q G r e k => by
  cases d with
  | tup ds =>
    obtain ⟨a, ws, h1, h2, h3⟩ := r
    rw [hK] at h2
    exact ⟨a, ws, h1, sqT_same G.sh h2, by rw [← h3.len]; exact bNames_len e, bw_slots is h B st σ Hs H ds ws st1 Q G h3 e k⟩
  | _ => cases e
def noE {α : Type} : Rs α → Rs α
  | .ok a => .ok a
  | _ => .bad
@[simp] theorem noE_ok {α : Type} (a : α) : noE (.ok a) = .ok a := rfl
def lcL (b : D → S → Option S) (ft : S → Rs Bool) (fe : S → Rs D) (st : S) : List D → Rs (List D)
  | [] => .ok []
  | d :: ds => (Rs.ofO (b d st)).bind fun s1 => (noE (ft s1)).bind fun c => if c = true then (noE (fe s1)).bind fun y => (lcL b ft fe st ds).bind fun r => .ok (y :: r) else lcL b ft fe st ds
def fLc (fi : S → Rs (List D)) (vs : List Nat) (b : D → S → Option S) (ft : S → Rs Bool) (fe : S → Rs D) : S → Rs (List D) := fun st => (fi st).bind fun items => few items (lcL b ft fe (wipeS st vs) items)
def W0 : WX := fun _ _ _ _ => False
def fYes : S → Rs Bool := fun _ => .ok true
theorem Rz.w0 {g : G} {W : WX} {σ : L2.St} {Hs H : Hp} {α : Type} {r : Rs α} {k : α → Prop} (h : Rz g W σ Hs H (noE r) k) {W' : WX} {σ' : L2.St} {Hs' H' : Hp} {k' : α → Prop} (i : ∀ a, k a → k' a) : Rz g W' σ' Hs' H' r k' := by
  cases r with
  | bad => exact False.elim h
  | ok a => exact i a h
  | er c n => exact False.elim h
theorem lc_go {g : G} {W : WX} {fi : S → Rs (List D)} {vs : List Nat} {b : D → S → Option S} {t : TG} {ft : S → Rs Bool} {fe : S → Rs D} (hb : BW g vs b t) {σ : L2.St} {H : Hp} {Q : VK} (q : tN g W (fLc fi vs b ft fe) σ H Q) :
    tLc (tIR g W fi) t (tT g W0 ft) (tF g W0 fe) vs σ H Q := by
  obtain ⟨B, st, Hs, G, q⟩ := q
  refine ⟨B, st, Hs, G, (Rz.bind q).imp fun items k J Hs1 H1 l wk => ?_⟩
  obtain ⟨hz, k⟩ := few_of k
  intro Dl nD
  have nDs : Hs1 Dl = none := l.sh.free nD
  have Gw : Good g B (wipeS st vs) (L2.wipe σ vs) Hs1 H1 := (G.later l).wipe vs
  refine ⟨fun i m H => i ≤ items.length ∧ m = items.length - i ∧ ∃ Hs' dacc vacc, Lt Hs1 H1 Hs' H ∧ Hs' Dl = none ∧ H Dl = some (.lst vacc) ∧ RepL g Hs' dacc vacc ∧ dacc.length ≤ i ∧
    Rz g W σ Hs1 H1 (lcL b ft fe (wipeS st vs) (items.drop i)) fun r => ∀ p ws Hs2 H2, H1 p = none → Lt Hs1 H1 Hs2 H2 → Hs2 p = none → H2 p = some (.lst ws) → RepL g Hs2 (dacc ++ r) ws → Q (.ref p) H2,
    ⟨items.length, Nat.zero_le _, rfl, Hs1, [], [], Lt.priv l.sh nD, nDs, upd_same, rfl, Nat.le_refl _, ?_⟩, ?_⟩
  · refine Rz.later k l fun r _ k p ws Hs2 H2 np l2 n2 hp hr => ?_
    exact k p ws Hs2 H2 (l.hh.free np) (l.trans l2) n2 hp hr
  rintro i m H ⟨hi, rfl, Hs', dacc, vacc, l', n', hD, hr, hlen, kk⟩
  obtain ⟨w1, w2, w3⟩ := wk i Hs' H l'
  by_cases hlt : i < items.length
  · refine .inr ⟨w1 hlt, ?_⟩
    have ed : items.drop i = items[i] :: items.drop (i + 1) := List.drop_eq_getElem_cons hlt
    rw [ed] at kk
    obtain ⟨s1, q1, kk⟩ := Rz.ofO (Rz.bind kk)
    refine ⟨fun H => i + 1 ≤ items.length ∧ ∃ Hs' dacc vacc, Lt Hs1 H1 Hs' H ∧ Hs' Dl = none ∧ H Dl = some (.lst vacc) ∧ RepL g Hs' dacc vacc ∧ dacc.length ≤ i + 1 ∧
      Rz g W σ Hs1 H1 (lcL b ft fe (wipeS st vs) (items.drop (i + 1))) fun r => ∀ p ws Hs2 H2, H1 p = none → Lt Hs1 H1 Hs2 H2 → Hs2 p = none → H2 p = some (.lst ws) → RepL g Hs2 (dacc ++ r) ws → Q (.ref p) H2,
      fun H' ⟨a1, a2⟩ => ⟨items.length - (i + 1), by omega, a1, rfl, a2⟩, fun x H' y => ?_⟩
    obtain ⟨Hs3, l3, r3⟩ := w3 x H' items[i] (List.getElem?_eq_getElem hlt) y
    refine hb B (wipeS st vs) _ Hs3 H' items[i] x s1 _ ((Gw.later l').later l3) r3 q1 fun σ2 G2 wq => ⟨wq.trans (wipe_wipe σ vs), ?_⟩
    have n3 : Hs3 Dl = none := l3.np _ _ hD n'
    have hD3 : H' Dl = some (.lst vacc) := l3.hh _ _ hD
    refine ⟨B, s1, Hs3, G2, Rz.w0 (Rz.bind kk) fun c kc Hs4 H4 l4 => ?_⟩
    have n4 : Hs4 Dl = none := l4.np _ _ hD3 n3
    have hD4 : H4 Dl = some (.lst vacc) := l4.hh _ _ hD3
    have l14 := (l'.trans l3).trans l4
    cases c with
    | true =>
      refine ⟨B, s1, Hs4, G2.later l4, Rz.w0 (Rz.bind kc) fun y ky v Hs5 H5 l5 ry => ?_⟩
      have n5 : Hs5 Dl = none := l5.np _ _ hD4 n4
      have hD5 : H5 Dl = some (.lst vacc) := l5.hh _ _ hD4
      have l15 := l14.trans l5
      have hr5 : RepL g Hs5 dacc vacc := RepL.mono ((l3.trans l4).trans l5).ss _ _ hr
      refine ⟨vacc, hD5, ?_, hlt, Hs5, dacc ++ [y], vacc ++ [v], ⟨l15.ss, ?_, ?_, l15.np⟩, n5, upd_same, hr5.append (.one ry), ?_, ?_⟩
      · rw [← hr.len]
        exact Nat.lt_of_lt_of_le (Nat.lt_of_le_of_lt hlen hlt) hz
      · intro a o e
        rw [upd_ne (fun z => by rw [z, n5] at e; cases e)]
        exact l15.sh _ _ e
      · intro a o e
        rw [upd_ne (fun z => by rw [z, nD] at e; cases e)]
        exact l15.hh _ _ e
      · rw [List.length_append, List.length_singleton]
        omega
      · refine (Rz.bind ky).imp fun r kr p ws Hs2 H2 np l2 n2 hp hr => kr p ws Hs2 H2 np l2 n2 hp ?_
        rw [List.append_assoc] at hr
        exact hr
    | false =>
      exact ⟨hlt, Hs4, dacc, vacc, l14, n4, hD4, RepL.mono (l3.trans l4).ss _ _ hr, by omega, kc⟩
  · have e2 : i = items.length := by omega
    subst e2
    rw [List.drop_length] at kk
    refine .inl ⟨w2 (Nat.le_refl _), ?_⟩
    exact kk Dl vacc Hs' H nD l' n' hD (by rw [List.append_nil]; exact hr)
section
variable {X : Cx} {g : G} {W : WX} {elt tg iter : Expr} {ifs : List Expr} {scope : Scope} {own : List (Str × Nat)} {pos : Pos}
theorem PTs.imp {ts : List Expr} {t t' : TT} (h : PTs X ts t) (i : ∀ σ H Q, t' σ H Q → t σ H Q) : PTs X ts t' := ⟨fun pins s σ H Q I q => h.run pins s σ H Q I (i σ H Q q)⟩
theorem fts_nil : PTs X [] (tT g W fYes) := PTs.imp pts_nil fun σ H Q ⟨B, st, Hs, G, q⟩ => q Hs H (Lt.refl G.sh)
theorem fts_one {c : Expr} {f : S → Rs Bool} (h : PT X c (tT g W f)) : PTs X [c] (tT g W f) := pts_one h
/-- [elt for tg in iter if ..] -/
theorem fn_lc {fi : S → Rs (List D)} {b : D → S → Option S} {t : TG} {ft : S → Rs Bool} {fe : S → Rs D} (hc : X.calm = true) (hN : X.N.Nodup) (hi : PI X tg iter (tIR g W fi)) (ok : BlkOk X.N X.env.scope scope own) (hb : BW g (own.map (·.2)) b t)
    (hg : ∀ (s : Shared) (H : Hp) (C : Addr) (cl : List (Str × Addr)) (fp : List Addr), PG (X.blk s H scope (compEnvC scope cl C X.env) fp) tg t)
    (ht : ∀ (s : Shared) (H : Hp) (C : Addr) (cl : List (Str × Addr)) (fp : List Addr), PTs (X.blk s H scope (compEnvC scope cl C X.env) fp) ifs (tT g W0 ft))
    (he : ∀ (s : Shared) (H : Hp) (C : Addr) (cl : List (Str × Addr)) (fp : List Addr), PE (X.blk s H scope (compEnvC scope cl C X.env) fp) elt (tF g W0 fe)) (hs : ∀ x, foldedSetIterable iter X.env x = pure x := by intro _; rfl) :
    PE X (.ListComp elt [⟨tg, iter, ifs, 0⟩] scope pos) (tN g W (fLc fi (own.map (·.2)) b ft fe)) := PE.imp (pe_lc hc hN hi ok hg ht he hs) fun σ H Q q => lc_go hb q
theorem fs_lcN (i : Nat) {y : Str} {py spos : Pos} {fi : S → Rs (List D)} {b : D → S → Option S} {t : TG} {ft : S → Rs Bool} {fe : S → Rs D} (hc : X.calm = true) (hN : X.N.Nodup) (hi : PI X tg iter (tIR g W fi)) (ok : BlkOk X.N X.env.scope scope own) (hb : BW g (own.map (·.2)) b t)
    (hg : ∀ (s : Shared) (H : Hp) (C : Addr) (cl : List (Str × Addr)) (fp : List Addr), PG (X.blk s H scope (compEnvC scope cl C X.env) fp) tg t)
    (ht : ∀ (s : Shared) (H : Hp) (C : Addr) (cl : List (Str × Addr)) (fp : List Addr), PTs (X.blk s H scope (compEnvC scope cl C X.env) fp) ifs (tT g W0 ft))
    (he : ∀ (s : Shared) (H : Hp) (C : Addr) (cl : List (Str × Addr)) (fp : List Addr), PE (X.blk s H scope (compEnvC scope cl C X.env) fp) elt (tF g W0 fe))
    (hsw : swapsWith (.ListComp elt [⟨tg, iter, ifs, 0⟩] scope pos) (some (.Name y py)) spos.line X.env = pure true) (hy : X.N[i]? = some y := by rfl) (hyl : X.env.scope.names.lookup y = some .local := by rfl) (hs : ∀ x, foldedSetIterable iter X.env x = pure x := by intro _; rfl) :
    PS X (.Assign [.Name y py] (.ListComp elt [⟨tg, iter, ifs, 0⟩] scope pos) spos) (tS g W (sAsgN i (fLc fi (own.map (·.2)) b ft fe))) :=
  PS.imp (ps_setLc hc hN hy hyl hsw hi ok hg ht he hs) fun Dn σ H q => lc_go hb (asgN_go q)
end
/-- the new list, given up at once -/
def fFrz (f : S → Rs (List D)) : S → Rs D := fun st => (f st).bind fun ds => .ok (.lst ds)
theorem frz_go {g : G} {W : WX} {f : S → Rs (List D)} {σ : L2.St} {H : Hp} {Q : VK} (q : tF g W (fFrz f) σ H Q) : tN g W f σ H Q := by
  obtain ⟨B, st, Hs, G, r⟩ := q
  refine ⟨B, st, Hs, G, (Rz.bind r).imp fun ds k p vs Hs' H' np l n1 hp hr => ?_⟩
  have ss : Same Hs' (upd Hs' p (.lst vs)) := same_upd n1
  refine k (.ref p) (upd Hs' p (.lst vs)) H' ⟨l.ss.trans ss, fun a o q => ?_, l.hh, fun a o q n => ?_⟩ ⟨p, vs, rfl, upd_same, RepL.mono ss _ _ hr⟩
  · by_cases z : a = p
    · subst z
      rw [upd_same] at q
      cases q
      exact hp
    · rw [upd_ne z] at q
      exact l.sh a o q
  · rw [upd_ne (ne_of_none q np)]
    exact l.np a o q n
section
variable {X : Cx} {g : G} {W : WX} {elt tg iter : Expr} {ifs : List Expr} {scope : Scope} {own : List (Str × Nat)} {pos : Pos}
theorem fe_frz {e : Expr} {f : S → Rs (List D)} (h : PE X e (tN g W f)) : PE X e (tF g W (fFrz f)) := PE.imp h fun _ _ _ q => frz_go q
theorem fs_lc (i : Nat) {y : Str} {py spos : Pos} {fi : S → Rs (List D)} {b : D → S → Option S} {t : TG} {ft : S → Rs Bool} {fe : S → Rs D} (hc : X.calm = true) (hN : X.N.Nodup) (hi : PI X tg iter (tIR g W fi)) (ok : BlkOk X.N X.env.scope scope own) (hb : BW g (own.map (·.2)) b t)
    (hg : ∀ (s : Shared) (H : Hp) (C : Addr) (cl : List (Str × Addr)) (fp : List Addr), PG (X.blk s H scope (compEnvC scope cl C X.env) fp) tg t)
    (ht : ∀ (s : Shared) (H : Hp) (C : Addr) (cl : List (Str × Addr)) (fp : List Addr), PTs (X.blk s H scope (compEnvC scope cl C X.env) fp) ifs (tT g W0 ft))
    (he : ∀ (s : Shared) (H : Hp) (C : Addr) (cl : List (Str × Addr)) (fp : List Addr), PE (X.blk s H scope (compEnvC scope cl C X.env) fp) elt (tF g W0 fe))
    (hsw : swapsWith (.ListComp elt [⟨tg, iter, ifs, 0⟩] scope pos) (some (.Name y py)) spos.line X.env = pure true) (hy : X.N[i]? = some y := by rfl) (hyl : X.env.scope.names.lookup y = some .local := by rfl) (hs : ∀ x, foldedSetIterable iter X.env x = pure x := by intro _; rfl) :
    PS X (.Assign [.Name y py] (.ListComp elt [⟨tg, iter, ifs, 0⟩] scope pos) spos) (tS g W (sAsg i (fFrz (fLc fi (own.map (·.2)) b ft fe)))) :=
  PS.imp (ps_setLc hc hN hy hyl hsw hi ok hg ht he hs) fun Dn σ H q => lc_go hb (frz_go (asg_go q))
end
/-! ### defs -/
inductive R where
  | ret (d : D) | new (ds : List D) | exc (c : Nat) (n : Option Int)
def RetOk (g : G) (Hs H : Hp) (Q : VK) (E : XK) : R → Prop
  | .ret d => ∀ v Hs' H', Lt Hs H Hs' H' → Rep g Hs' d v → Q v H'
  | .new ds => ∀ p vs Hs' H', H p = none → Lt Hs H Hs' H' → Hs' p = none → H' p = some (.lst vs) → RepL g Hs' ds vs → Q (.ref p) H'
  | .exc c n => ∀ d' Hs' H', Lt Hs H Hs' H' → XD n d' H' → E (.ref (g.cl c)) d' H'
/-- a def is worth a function -/
def SpF (g : G) (gf : List D → Option R) : Sp := fun vs H Q E => ∃ Hs ds r, Same Hs H ∧ RepL g Hs ds vs ∧ gf ds = some r ∧ RetOk g Hs H Q E r
def outR : Out → Option R
  | .nx _ => some (.ret .non)
  | .rt d => some (.ret d)
  | .rtN ds => some (.new ds)
  | .xr c n _ => some (.exc c n)
  | _ => none
theorem fn_ok {P : Program} {w : World} {K : PySem.W.Frag} {mg : Str → Option Value} {base : Heap} {cl : Nat → Addr} {x qual : Str} {st : Stmt} {f : Addr} {fd : FuncData} {N ps : List Str} {k : Nat} (F : Fun K x qual st f fd) (Sc : FnScope N ps (defScope st))
    {gf : List D → Option R} {fb : S → Option Out}
    (hb : ∀ (cdv : Value) (A : Around) (outer : List Env) (s : Shared) (H : Hp) (E : XK), Room k (A.deeper (PyProof.Rows.envOfC qual (defScope st) s.heap.objs.size f cdv)) →
      PSs (cxOf (L2.CX P w) P w K mg base N qual (defScope st) f cdv A outer s H E) (defBody st) (tS ⟨K, cl⟩ (fun cls d _ H' => E cls d H') fb))
    (hl : ∀ ds r, gf ds = some r → ds.length = ps.length) (hf : ∀ ds r, gf ds = some r → ∃ o, fb (startS N ds) = some o ∧ outR o = some r) :
    FnOk P w K mg base (L2.CX P w) (k + 1) f fd ps (SpF ⟨K, cl⟩ gf) := by
  refine F.okX Sc (fun vs H Q E h => ?_) (fun cdv A outer s H vs Q E hr h => ⟨_, hb cdv A outer s H E hr, ?_⟩)
  · obtain ⟨Hs, ds, r, _, h2, h3, _⟩ := h
    rw [← h2.len]
    exact hl ds r h3
  · obtain ⟨Hs, ds, r, h1, h2, h3, h4⟩ := h
    obtain ⟨o, e1, e2⟩ := hf ds r h3
    refine ⟨⟨Hs, H, []⟩, startS N ds, Hs, o, Good.start h1 h2 N, e1, ?_⟩
    cases o with
    | nx s =>
      cases e2
      exact fun σ' Hs' H' s1 G1 => h4 .non Hs' H' G1.lt rfl
    | rt d =>
      cases e2
      exact h4
    | rtN ds =>
      cases e2
      exact h4
    | xr c n s =>
      cases e2
      exact fun d' σ' Hs' H' Hx s1 G1 lx x => h4 d' Hs' Hx (G1.lt.trans lx) x
    | bk s => cases e2
    | ct s => cases e2
/-! ### calls -/
def callR {α : Type} (kd : D → Rs α) (kn : List D → Rs α) : Option R → Rs α
  | some (.ret d) => kd d
  | some (.new ds) => kn ds
  | some (.exc c n) => .er c n
  | none => .bad
def fCall (gf : List D → Option R) (fa : S → Rs (List D)) : S → Rs D := fun st => (fa st).bind fun ds => callR .ok (fun es => .ok (.lst es)) (gf ds)
def fCallN (gf : List D → Option R) (fa : S → Rs (List D)) : S → Rs (List D) := fun st => (fa st).bind fun ds => callR (fun _ => .bad) .ok (gf ds)
section
variable {X : Cx} {g : G} {W : WX} {k : Nat} {f : Addr} {fd : FuncData} {ps : List Str} {x : Str} {p pos : Pos} {e : Expr} {es : List Expr} {gf : List D → Option R}
theorem fe_call {fa : S → Rs (List D)} (F : FnOk X.prog X.w X.K X.mg X.base (L2.CX X.prog X.w) k f fd ps (SpF g gf)) (hr : Room k X.A) (hm : X.mg x = some (.ref f)) (hk : PySem.W.keepIn X.K (.ref f) = true) (hb : Binds X.K fd ps []) (tk : Takes X W)
    (ha : PA X (e :: es) (tA g W fa)) (hg : Gl X x := by rfl) (hdb : (x == ("__debug__" : Str)) = false := by decide) (he : starEach (e :: es) X.env = (false, eval e X.env) :: starEach es X.env := by rfl) (hpl : (backTo pos (starEach es X.env)).any (·.1) = false := by rfl) :
    PE X (.Call (.Name x p) (e :: es) [] pos) (tF g W (fCall gf fa)) := PE.imp (pe_callS F hr hg hm hk hb (fun σ => passAt tk σ) ha hdb he hpl) fun σ H Q ⟨B, st, Hs, G, q⟩ => by
  refine ⟨B, st, Hs, G, (Rz.bind q).imp fun ds q vs Hs1 H1 l r => ?_⟩
  unfold callR at q
  split at q
  · rename_i d e1
    exact ⟨Hs1, ds, .ret d, l.sh, r, e1, fun v Hs' H' l2 r2 => q v Hs' H' (l.trans l2) r2⟩
  · rename_i es e1
    refine ⟨Hs1, ds, .new es, l.sh, r, e1, fun p vs Hs' H' np l2 n1 hp hr => ?_⟩
    have ss : Same Hs' (upd Hs' p (.lst vs)) := same_upd n1
    refine q (.ref p) (upd Hs' p (.lst vs)) H' (l.trans ⟨l2.ss.trans ss, fun a o q => ?_, l2.hh, fun a o q n => ?_⟩) ⟨p, vs, rfl, upd_same, RepL.mono ss _ _ hr⟩
    · by_cases z : a = p
      · subst z
        rw [upd_same] at q
        cases q
        exact hp
      · rw [upd_ne z] at q
        exact l2.sh a o q
    · rw [upd_ne (ne_of_none q np)]
      exact l2.np a o q n
  · rename_i c n e1
    exact ⟨Hs1, ds, .exc c n, l.sh, r, e1, fun d' Hs' H' l2 x => q d' Hs' H' (l.trans l2) x⟩
  · exact False.elim q
theorem fn_call {fa : S → Rs (List D)} (F : FnOk X.prog X.w X.K X.mg X.base (L2.CX X.prog X.w) k f fd ps (SpF g gf)) (hr : Room k X.A) (hm : X.mg x = some (.ref f)) (hk : PySem.W.keepIn X.K (.ref f) = true) (hb : Binds X.K fd ps []) (tk : Takes X W)
    (ha : PA X (e :: es) (tA g W fa)) (hg : Gl X x := by rfl) (hdb : (x == ("__debug__" : Str)) = false := by decide) (he : starEach (e :: es) X.env = (false, eval e X.env) :: starEach es X.env := by rfl) (hpl : (backTo pos (starEach es X.env)).any (·.1) = false := by rfl) :
    PE X (.Call (.Name x p) (e :: es) [] pos) (tN g W (fCallN gf fa)) := PE.imp (pe_callS F hr hg hm hk hb (fun σ => passAt tk σ) ha hdb he hpl) fun σ H Q ⟨B, st, Hs, G, q⟩ => by
  refine ⟨B, st, Hs, G, (Rz.bind q).imp fun ds q vs Hs1 H1 l r => ?_⟩
  unfold callR at q
  split at q
  · exact False.elim q
  · rename_i es e1
    exact ⟨Hs1, ds, .new es, l.sh, r, e1, fun p vs Hs' H' np l2 n1 hp hr => q p vs Hs' H' (l.hh.free np) (l.trans l2) n1 hp hr⟩
  · rename_i c n e1
    exact ⟨Hs1, ds, .exc c n, l.sh, r, e1, fun d' Hs' H' l2 x => q d' Hs' H' (l.trans l2) x⟩
  · exact False.elim q
/-- own lists handed in to be read; the answer no list -/
def scal1 : D → Rs D
  | .non => .ok .non
  | .bl b => .ok (.bl b)
  | .int i => .ok (.int i)
  | .str x => .ok (.str x)
  | _ => .bad
def fCallR (gf : List D → Option R) (fa : S → Rs (List D)) : S → Rs D := fun st => (fa st).bind fun ds => (noE (callR .ok (fun _ => .bad) (gf ds))).bind scal1
theorem scal1_rep {d d' : D} (h : scal1 d = .ok d') : d' = d ∧ ∀ H H' v, Rep g H d v → Rep g H' d v := by
  cases d <;> first | (cases h; exact ⟨rfl, fun _ _ _ r => r⟩) | cases h
theorem fe_callR {fa : S → Rs (List D)} (F : FnOk X.prog X.w X.K X.mg X.base (L2.CX X.prog X.w) k f fd ps (SpF g gf)) (hr : Room k X.A) (hm : X.mg x = some (.ref f)) (hk : PySem.W.keepIn X.K (.ref f) = true) (hb : Binds X.K fd ps []) (tk : Takes X W)
    (ha : PA X (e :: es) (tAR g W fa)) (hg : Gl X x := by rfl) (hdb : (x == ("__debug__" : Str)) = false := by decide) (he : starEach (e :: es) X.env = (false, eval e X.env) :: starEach es X.env := by rfl) (hpl : (backTo pos (starEach es X.env)).any (·.1) = false := by rfl) :
    PE X (.Call (.Name x p) (e :: es) [] pos) (tF g W (fCallR gf fa)) := PE.imp (pe_callS F hr hg hm hk hb (fun σ => passAt tk σ) ha hdb he hpl) fun σ H Q ⟨B, st, Hs, G, q⟩ => by
  refine ⟨B, st, Hs, G, (Rz.bind q).imp fun ds q vs Hs1 H1 l r => ?_⟩
  have ra := RepRL.all l.sh r
  cases e1 : gf ds with
  | none =>
    rw [e1] at q
    exact False.elim q
  | some rr =>
    rw [e1] at q
    cases rr with
    | new _ => exact False.elim q
    | exc _ _ => exact False.elim q
    | ret d =>
      have q : Rz g W σ Hs H (scal1 d) fun d => ∀ v Hs' H', Lt Hs H Hs' H' → Rep g Hs' d v → Q v H' := q
      cases e2 : scal1 d with
      | bad =>
        rw [e2] at q
        exact False.elim q
      | er c n => cases d <;> cases e2
      | ok d' =>
        rw [e2] at q
        have q2 : ∀ v Hs' H', Lt Hs H Hs' H' → Rep g Hs' d' v → Q v H' := q
        obtain ⟨rfl, sr⟩ := scal1_rep (g := g) e2
        refine ⟨H1, ds, .ret d', Same.refl _, ra, e1, fun v Hs' H' l2 r2 => ?_⟩
        exact q2 v Hs1 H' (l.trans ⟨Same.refl _, l.sh.trans l2.hh, l2.hh, fun _ _ _ n => n⟩) (sr _ _ _ r2)
/-- a def of the module, by its name -/
structure Ca (P : Program) (w : World) (K : PySem.W.Frag) (mg : Str → Option Value) (base : Heap) (g : G) (x : Str) (k : Nat) (gf : List D → Option R) : Prop where
  ex : ∃ f fd ps, FnOk P w K mg base (L2.CX P w) k f fd ps (SpF g gf) ∧ mg x = some (.ref f) ∧ PySem.W.keepIn K (.ref f) = true ∧ Binds K fd ps []
theorem ge_call {n : Nat} {fa : S → Rs (List D)} (C : Ca X.prog X.w X.K X.mg X.base g x k gf) (hr : Room n X.A) (tk : Takes X W) (ha : PA X (e :: es) (tA g W fa)) (hle : k ≤ n := by decide) (hg : Gl X x := by rfl) (hdb : (x == ("__debug__" : Str)) = false := by decide)
    (he : starEach (e :: es) X.env = (false, eval e X.env) :: starEach es X.env := by rfl) (hpl : (backTo pos (starEach es X.env)).any (·.1) = false := by rfl) : PE X (.Call (.Name x p) (e :: es) [] pos) (tF g W (fCall gf fa)) := by
  obtain ⟨f, fd, ps, F, hm, hk, hb⟩ := C.ex
  exact fe_call F (hr.mono hle) hm hk hb tk ha hg hdb he hpl
theorem gn_call {n : Nat} {fa : S → Rs (List D)} (C : Ca X.prog X.w X.K X.mg X.base g x k gf) (hr : Room n X.A) (tk : Takes X W) (ha : PA X (e :: es) (tA g W fa)) (hle : k ≤ n := by decide) (hg : Gl X x := by rfl) (hdb : (x == ("__debug__" : Str)) = false := by decide)
    (he : starEach (e :: es) X.env = (false, eval e X.env) :: starEach es X.env := by rfl) (hpl : (backTo pos (starEach es X.env)).any (·.1) = false := by rfl) : PE X (.Call (.Name x p) (e :: es) [] pos) (tN g W (fCallN gf fa)) := by
  obtain ⟨f, fd, ps, F, hm, hk, hb⟩ := C.ex
  exact fn_call F (hr.mono hle) hm hk hb tk ha hg hdb he hpl
theorem ge_callR {n : Nat} {fa : S → Rs (List D)} (C : Ca X.prog X.w X.K X.mg X.base g x k gf) (hr : Room n X.A) (tk : Takes X W) (ha : PA X (e :: es) (tAR g W fa)) (hle : k ≤ n := by decide) (hg : Gl X x := by rfl) (hdb : (x == ("__debug__" : Str)) = false := by decide)
    (he : starEach (e :: es) X.env = (false, eval e X.env) :: starEach es X.env := by rfl) (hpl : (backTo pos (starEach es X.env)).any (·.1) = false := by rfl) : PE X (.Call (.Name x p) (e :: es) [] pos) (tF g W (fCallR gf fa)) := by
  obtain ⟨f, fd, ps, F, hm, hk, hb⟩ := C.ex
  exact fe_callR F (hr.mono hle) hm hk hb tk ha hg hdb he hpl
end
/-- a def's function, off its body's -/
def runG (N : List Str) (n : Nat) (fb : S → Option Out) : List D → Option R := fun ds => if ds.length = n then (fb (startS N ds)).bind outR else none
theorem runG_len {N : List Str} {n : Nat} {fb : S → Option Out} (ds : List D) (r : R) (h : runG N n fb ds = some r) : ds.length = n := by
  unfold runG at h
  split at h
  · assumption
  · cases h
theorem runG_out {N : List Str} {n : Nat} {fb : S → Option Out} (ds : List D) (r : R) (h : runG N n fb ds = some r) : ∃ o, fb (startS N ds) = some o ∧ outR o = some r := by
  unfold runG at h
  split at h
  · exact Option.bind_eq_some_iff.mp h
  · cases h
end Fx
set_option Elab.async false
set_option linter.all false
set_option maxRecDepth 100000
set_option maxHeartbeats 4000000
namespace Fx
open PySem L2
/-! ### numbers -/
def dAdd := dI2 fun i j => .int (i + j)
def dSub := dI2 fun i j => .int (i - j)
def dMul := dI2c (fun i j => (decide (-(2 ^ 64) < i) && decide (i < 2 ^ 64)) || (decide (-(2 ^ 64) < j) && decide (j < 2 ^ 64))) fun i j => .int (i * j)
def dMod := dI2c (fun _ j => decide (0 < j)) fun i j => .int (i % j)
def dDiv := dI2c (fun _ j => decide (0 < j) && decide (j < 1073741824)) fun i j => .int (i / j)
def dShl := dI2c (fun i j => decide (0 ≤ j) && decide (j ≤ 1000000) && decide (i.natAbs < 2 ^ 64)) fun i j => .int (i * 2 ^ j.toNat)
def dShr := dI2c (fun _ j => decide (0 ≤ j)) fun i j => .int (i / 2 ^ j.toNat)
def dPow := dI2c (fun i j => decide (0 ≤ j) && decide (j ≤ 1000000) && decide (i.natAbs < 2 ^ 64)) fun i j => .int (i ^ j.toNat)
def dAnd := dI2 fun i j => .int (Builtin.bitAnd i j)
def dOr := dI2 fun i j => .int (Builtin.bitOr i j)
def dXor := dI2 fun i j => .int (Builtin.bitXor i j)
def dLt := dI2 fun i j => .bl (decide (i < j))
def dLe := dI2 fun i j => .bl (decide (i ≤ j))
def dGt := dI2 fun i j => .bl (decide (j < i))
def dGe := dI2 fun i j => .bl (decide (j ≤ i))
def dNeg : D → Option D
  | .int i => some (.int (-i))
  | _ => none
section
variable {g : G} {X : Cx} {W : WX} {a b e : Expr} {pos : Pos} {fa fb : S → Rs D}
theorem fe_add (ha : PE X a (tR g W fa)) (hb : PE X b (tR g W fb)) : PE X (.BinOp a .Add b pos) (tF g W (fBin dAdd fa fb)) := fe_bin op_add opI_int ha hb
theorem fe_sub (ha : PE X a (tR g W fa)) (hb : PE X b (tR g W fb)) : PE X (.BinOp a .Sub b pos) (tF g W (fBin dSub fa fb)) := fe_bin op_sub opI_int ha hb
theorem fe_mul (ha : PE X a (tR g W fa)) (hb : PE X b (tR g W fb)) : PE X (.BinOp a .Mult b pos) (tF g W (fBin dMul fa fb)) := fe_bin op_mul (opIc_int fun i j h => by
  rw [Bool.or_eq_true, Bool.and_eq_true, Bool.and_eq_true] at h
  rcases h with ⟨h1, h2⟩ | ⟨h1, h2⟩
  · exact .inl ⟨of_decide_eq_true h1, of_decide_eq_true h2⟩
  · exact .inr ⟨of_decide_eq_true h1, of_decide_eq_true h2⟩) ha hb
theorem fe_mod (ha : PE X a (tR g W fa)) (hb : PE X b (tR g W fb)) : PE X (.BinOp a .Mod b pos) (tF g W (fBin dMod fa fb)) := fe_bin op_mod (opIc_int fun i j h => of_decide_eq_true h) ha hb
theorem fe_div (ha : PE X a (tR g W fa)) (hb : PE X b (tR g W fb)) : PE X (.BinOp a .FloorDiv b pos) (tF g W (fBin dDiv fa fb)) := fe_bin op_fdiv (opIc_int fun i j h => by
  rw [Bool.and_eq_true] at h
  exact ⟨of_decide_eq_true h.1, of_decide_eq_true h.2⟩) ha hb
theorem cpow_of {i j : Int} (h : (decide (0 ≤ j) && decide (j ≤ 1000000) && decide (i.natAbs < 2 ^ 64)) = true) : CPow i j := by
  rw [Bool.and_eq_true, Bool.and_eq_true] at h
  exact ⟨of_decide_eq_true h.1.1, of_decide_eq_true h.1.2, of_decide_eq_true h.2⟩
theorem fe_shl (ha : PE X a (tR g W fa)) (hb : PE X b (tR g W fb)) : PE X (.BinOp a .LShift b pos) (tF g W (fBin dShl fa fb)) := fe_bin op_shl (opIc_int fun i j h => cpow_of h) ha hb
theorem fe_shr (ha : PE X a (tR g W fa)) (hb : PE X b (tR g W fb)) : PE X (.BinOp a .RShift b pos) (tF g W (fBin dShr fa fb)) := fe_bin op_shr (opIc_int fun i j h => of_decide_eq_true h) ha hb
theorem fe_pow (ha : PE X a (tR g W fa)) (hb : PE X b (tR g W fb)) : PE X (.BinOp a .Pow b pos) (tF g W (fBin dPow fa fb)) := fe_bin op_pow (opIc_int fun i j h => cpow_of h) ha hb
theorem fe_band (ha : PE X a (tR g W fa)) (hb : PE X b (tR g W fb)) : PE X (.BinOp a .BitAnd b pos) (tF g W (fBin dAnd fa fb)) := fe_bin op_and opI_int ha hb
theorem fe_bor (ha : PE X a (tR g W fa)) (hb : PE X b (tR g W fb)) : PE X (.BinOp a .BitOr b pos) (tF g W (fBin dOr fa fb)) := fe_bin op_or opI_int ha hb
theorem fe_bxor (ha : PE X a (tR g W fa)) (hb : PE X b (tR g W fb)) : PE X (.BinOp a .BitXor b pos) (tF g W (fBin dXor fa fb)) := fe_bin op_xor opI_int ha hb
theorem fe_neg (ha : PE X a (tR g W fa)) : PE X (.UnaryOp .USub a pos) (tF g W (fUn dNeg fa)) := fe_un un_neg (fun x d v Hs H Q e s r k => by
  cases x with
  | int i =>
    cases e
    exact ⟨i, repR_int r, k _ rfl⟩
  | _ => cases e) ha
theorem fe_lt (ha : PE X a (tR g W fa)) (hb : PE X b (tR g W fb)) : PE X (.Compare a [.Lt] [b] pos) (tF g W (fBin dLt fa fb)) := fe_cmp op_lt opI_bl ha hb (nomark _)
theorem fe_le (ha : PE X a (tR g W fa)) (hb : PE X b (tR g W fb)) : PE X (.Compare a [.LtE] [b] pos) (tF g W (fBin dLe fa fb)) := fe_cmp op_le opI_bl ha hb (nomark _)
theorem fe_gt (ha : PE X a (tR g W fa)) (hb : PE X b (tR g W fb)) : PE X (.Compare a [.Gt] [b] pos) (tF g W (fBin dGt fa fb)) := fe_cmp op_gt opI_bl ha hb (nomark _)
theorem fe_ge (ha : PE X a (tR g W fa)) (hb : PE X b (tR g W fb)) : PE X (.Compare a [.GtE] [b] pos) (tF g W (fBin dGe fa fb)) := fe_cmp op_ge opI_bl ha hb (nomark _)
theorem ft_lt (ha : PE X a (tR g W fa)) (hb : PE X b (tR g W fb)) : PT X (.Compare a [.Lt] [b] pos) (tT g W (fTest (fBin dLt fa fb))) := ft_cmp op_lt opI_bl ha hb (nomark _)
theorem ft_le (ha : PE X a (tR g W fa)) (hb : PE X b (tR g W fb)) : PT X (.Compare a [.LtE] [b] pos) (tT g W (fTest (fBin dLe fa fb))) := ft_cmp op_le opI_bl ha hb (nomark _)
theorem ft_gt (ha : PE X a (tR g W fa)) (hb : PE X b (tR g W fb)) : PT X (.Compare a [.Gt] [b] pos) (tT g W (fTest (fBin dGt fa fb))) := ft_cmp op_gt opI_bl ha hb (nomark _)
theorem ft_ge (ha : PE X a (tR g W fa)) (hb : PE X b (tR g W fb)) : PT X (.Compare a [.GtE] [b] pos) (tT g W (fTest (fBin dGe fa fb))) := ft_cmp op_ge opI_bl ha hb (nomark _)
/-! ### == -/
end
mutual
def py : D → PyData
  | .non => .none
  | .bl b => .bool b
  | .int i => .int i
  | .str x => .str x
  | .lst ds => .list (pyL ds)
  | .tup ds => .tuple (pyL ds)
  | _ => .none
def pyL : List D → List PyData
  | [] => []
  | d :: ds => py d :: pyL ds
end
mutual
/-- plain data, at most n deep -/
def okD : Nat → D → Bool
  | _, .non => true
  | _, .bl _ => true
  | _, .int _ => true
  | _, .str _ => true
  | n + 1, .lst ds => okL n ds
  | n + 1, .tup ds => okL n ds
  | _, _ => false
def okL : Nat → List D → Bool
  | _, [] => true
  | n, d :: ds => okD n d && okL n ds
end
mutual
theorem okD_depth : ∀ (n : Nat) (d : D), okD n d = true → (py d).depth ≤ n ∧ (py d).plain = true
  | _, .non, _ => ⟨Nat.zero_le _, rfl⟩
  | _, .bl _, _ => ⟨Nat.zero_le _, rfl⟩
  | _, .int _, _ => ⟨Nat.zero_le _, rfl⟩
  | _, .str _, _ => ⟨Nat.zero_le _, rfl⟩
  | 0, .lst ds, h => by simp [okD] at h
  | 0, .tup ds, h => by simp [okD] at h
  | n + 1, .lst ds, h => by
    have q := okL_depth n ds (by simpa [okD] using h)
    simp only [py, PyData.depth, PyData.plain]
    exact ⟨Nat.succ_le_succ q.1, q.2⟩
  | n + 1, .tup ds, h => by
    have q := okL_depth n ds (by simpa [okD] using h)
    simp only [py, PyData.depth, PyData.plain]
    exact ⟨Nat.succ_le_succ q.1, q.2⟩
  | n, .scr _, h => by cases n <;> simp [okD] at h
  | n, .obj _ _ _, h => by cases n <;> simp [okD] at h
  | n, .exc _ _, h => by cases n <;> simp [okD] at h
theorem okL_depth : ∀ (n : Nat) (ds : List D), okL n ds = true → PyData.depthAll (pyL ds) ≤ n ∧ PyData.plainAll (pyL ds) = true
  | _, [], _ => ⟨Nat.zero_le _, rfl⟩
  | n, d :: ds, h => by
    simp only [okL, Bool.and_eq_true] at h
    have q1 := okD_depth n d h.1
    have q2 := okL_depth n ds h.2
    simp only [pyL, PyData.depthAll, PyData.plainAll, q1.2, q2.2, Bool.and_self]
    exact ⟨Nat.max_le.mpr ⟨q1.1, q2.1⟩, trivial⟩
end
mutual
theorem rep_dp {g : G} {H : Hp} : ∀ (n : Nat) (d : D) (v : V), okD n d = true → Rep g H d v → Dp g.K H v (py d)
  | _, .non, _, _, r => by cases r; exact .non
  | _, .bl b, _, _, r => by cases r; exact .bl b
  | _, .int i, _, _, r => by cases r; exact .int i
  | _, .str x, _, _, r => by cases r; exact .str x
  | 0, .lst ds, _, h, _ => by simp [okD] at h
  | 0, .tup ds, _, h, _ => by simp [okD] at h
  | n + 1, .lst ds, _, h, ⟨a, vs, h1, h2, h3⟩ => by
    rw [h1]
    exact .lst (SqL.of h2) (repL_dp n ds vs (by simpa [okD] using h) h3)
  | n + 1, .tup ds, _, h, ⟨a, vs, h1, h2, h3⟩ => by
    rw [h1]
    exact .tup h2 (repL_dp n ds vs (by simpa [okD] using h) h3)
  | n, .scr _, _, h, _ => by cases n <;> simp [okD] at h
  | n, .obj _ _ _, _, h, _ => by cases n <;> simp [okD] at h
  | n, .exc _ _, _, h, _ => by cases n <;> simp [okD] at h
theorem repL_dp {g : G} {H : Hp} : ∀ (n : Nat) (ds : List D) (vs : List V), okL n ds = true → RepL g H ds vs → DpAll g.K H vs (pyL ds)
  | _, [], _, _, r => by
    have r : _ = [] := r
    rw [r]
    exact .nil
  | n, d :: ds, _, h, ⟨v, r, h1, h2, h3⟩ => by
    simp only [okL, Bool.and_eq_true] at h
    rw [h1]
    exact .cons (rep_dp n d v h.1 h2) (repL_dp n ds r h.2 h3)
end
def eqD (x y : D) : Bool := PyData.eqv (py x) (py y)
def dEq (x y : D) : Option D := if (okD 8 x && okD 8 y) = true then some (.bl (eqD x y)) else none
def dNe (x y : D) : Option D := if (okD 8 x && okD 8 y) = true then some (.bl (!eqD x y)) else none
def rEqP (K : PySem.W.Frag) : R2 := fun x y H Q => ∃ d e, Dp K H x d ∧ Dp K H y e ∧ d.plain = true ∧ e.plain = true ∧ d.depth ≤ 60 ∧ Q (.bl (PyData.eqv d e)) H
def rNeP (K : PySem.W.Frag) : R2 := fun x y H Q => ∃ d e, Dp K H x d ∧ Dp K H y e ∧ d.plain = true ∧ e.plain = true ∧ d.depth ≤ 60 ∧ Q (.bl (!PyData.eqv d e)) H
section
variable {X : Cx}
theorem op_eqP (hu : X.A.units + 64 < cLine) : OpR X (compareOp .Eq) (rEqP X.K) := by
  intro pins s σ H x y v u Q I rx ry h
  obtain ⟨d, e, hd, he, sd, se, hl, q⟩ := h
  obtain ⟨as, r1⟩ := Dp.reads I d x v hd rx
  obtain ⟨bs, r2⟩ := Dp.reads I e y u he ry
  exact SeqAt.eq_plain r1 r2 sd se (by have := Nat.min_le_left d.depth e.depth; omega) ⟨.bl _, H, I, rfl, q⟩
theorem op_neP (hu : X.A.units + 64 < cLine) : OpR X (compareOp .NotEq) (rNeP X.K) := by
  intro pins s σ H x y v u Q I rx ry h
  obtain ⟨d, e, hd, he, sd, se, hl, q⟩ := h
  obtain ⟨as, r1⟩ := Dp.reads I d x v hd rx
  obtain ⟨bs, r2⟩ := Dp.reads I e y u he ry
  exact SeqAt.ne_plain r1 r2 sd se (by have := Nat.min_le_left d.depth e.depth; omega) ⟨.bl _, H, I, rfl, q⟩
/-- x in xs -/
def rInP (K : PySem.W.Frag) (neg : Bool) : R2 := fun x y H Q => ∃ d es p vs, Dp K H x d ∧ y = .ref p ∧ (SqL K H p vs ∨ SqT K H p vs) ∧ DpAll K H vs es ∧ d.plain = true ∧ PyData.plainAll es = true ∧ d.depth ≤ 60 ∧ Q (.bl (if neg then !(es.any fun y => PyData.eqv y d) else es.any fun y => PyData.eqv y d)) H
theorem op_inP (hu : X.A.units + 64 < cLine) : OpR X (compareOp .In) (rInP X.K false) := by
  intro pins s σ H x y v u Q I rx ry h
  obtain ⟨d, es, p, vs, hd, rfl, hq, he, sd, se, hl, q⟩ := h
  obtain ⟨as, r1⟩ := Dp.reads I d x v hd rx
  cases ry
  rcases hq with hq | hq
  · obtain ⟨bs, r2⟩ := Dp.reads I (.list es) (.ref p) (.ref p) (.lst hq he) rfl
    exact SeqAt.in_list_data r2 r1 se sd (by have := Nat.min_le_right (PyData.depthAll es) d.depth; omega) ⟨.bl _, H, I, rfl, q⟩
  · obtain ⟨bs, r2⟩ := Dp.reads I (.tuple es) (.ref p) (.ref p) (.tup hq he) rfl
    exact SeqAt.in_tuple_data r2 r1 se sd (by have := Nat.min_le_right (PyData.depthAll es) d.depth; omega) ⟨.bl _, H, I, rfl, q⟩
theorem op_notInP (hu : X.A.units + 64 < cLine) : OpR X (compareOp .NotIn) (rInP X.K true) := by
  intro pins s σ H x y v u Q I rx ry h
  obtain ⟨d, es, p, vs, hd, rfl, hq, he, sd, se, hl, q⟩ := h
  obtain ⟨as, r1⟩ := Dp.reads I d x v hd rx
  cases ry
  rcases hq with hq | hq
  · obtain ⟨bs, r2⟩ := Dp.reads I (.list es) (.ref p) (.ref p) (.lst hq he) rfl
    exact SeqAt.notIn_list_data r2 r1 se sd (by have := Nat.min_le_right (PyData.depthAll es) d.depth; omega) ⟨.bl _, H, I, rfl, q⟩
  · obtain ⟨bs, r2⟩ := Dp.reads I (.tuple es) (.ref p) (.ref p) (.tup hq he) rfl
    exact SeqAt.notIn_tuple_data r2 r1 se sd (by have := Nat.min_le_right (PyData.depthAll es) d.depth; omega) ⟨.bl _, H, I, rfl, q⟩
end
/-- what is read on the spot stands in the heap as it is -/
theorem RepR.now {g : G} {Hs H : Hp} (s : Same Hs H) {d : D} {v : V} (h : RepR g Hs H d v) : Rep g H d v := h.all s
section
variable {g : G} {X : Cx} {W : WX} {a b e : Expr} {pos : Pos} {fa fb : S → Rs D}
theorem opD_eq : OpD g (rEqP g.K) dEq := fun x y d v w Hs H Q e s rx ry k => by
  unfold dEq at e
  split at e
  · rename_i h
    cases e
    rw [Bool.and_eq_true] at h
    have q1 := okD_depth 8 x h.1
    have q2 := okD_depth 8 y h.2
    exact ⟨py x, py y, rep_dp 8 x v h.1 (rx.now s), rep_dp 8 y w h.2 (ry.now s), q1.2, q2.2, Nat.le_trans q1.1 (by decide), k _ rfl⟩
  · cases e
theorem opD_ne : OpD g (rNeP g.K) dNe := fun x y d v w Hs H Q e s rx ry k => by
  unfold dNe at e
  split at e
  · rename_i h
    cases e
    rw [Bool.and_eq_true] at h
    have q1 := okD_depth 8 x h.1
    have q2 := okD_depth 8 y h.2
    exact ⟨py x, py y, rep_dp 8 x v h.1 (rx.now s), rep_dp 8 y w h.2 (ry.now s), q1.2, q2.2, Nat.le_trans q1.1 (by decide), k _ rfl⟩
  · cases e
def inL (x : D) (ds : List D) : Bool := (pyL ds).any fun y => PyData.eqv y (py x)
def dIn (neg : Bool) (x y : D) : Option D := match y with
  | .lst ds => if (okD 8 x && okL 8 ds) = true then some (.bl (if neg then !inL x ds else inL x ds)) else none
  | .tup ds => if (okD 8 x && okL 8 ds) = true then some (.bl (if neg then !inL x ds else inL x ds)) else none
  | _ => none
theorem opD_in {neg : Bool} : OpD g (rInP g.K neg) (dIn neg) := fun x y d v w Hs H Q e s rx ry k => by
  unfold dIn at e
  split at e
  · rename_i ds
    split at e
    · rename_i h
      cases e
      rw [Bool.and_eq_true] at h
      have q1 := okD_depth 8 x h.1
      have q2 := okL_depth 8 ds h.2
      obtain ⟨a, vs, h1, h2, h3⟩ := ry.now s
      exact ⟨py x, pyL ds, a, vs, rep_dp 8 x v h.1 (rx.now s), h1, .inl (SqL.of h2), repL_dp 8 ds vs h.2 h3, q1.2, q2.2, Nat.le_trans q1.1 (by decide), k _ rfl⟩
    · cases e
  · rename_i ds
    split at e
    · rename_i h
      cases e
      rw [Bool.and_eq_true] at h
      have q1 := okD_depth 8 x h.1
      have q2 := okL_depth 8 ds h.2
      obtain ⟨a, vs, h1, h2, h3⟩ := ry.now s
      exact ⟨py x, pyL ds, a, vs, rep_dp 8 x v h.1 (rx.now s), h1, .inr h2, repL_dp 8 ds vs h.2 h3, q1.2, q2.2, Nat.le_trans q1.1 (by decide), k _ rfl⟩
    · cases e
  · cases e
variable {k : Nat}
theorem fe_eq (hK : g.K = X.K) (hr : Room k X.A) (ha : PE X a (tR g W fa)) (hb : PE X b (tR g W fb)) : PE X (.Compare a [.Eq] [b] pos) (tF g W (fBin dEq fa fb)) := fe_cmp (op_eqP hr.units) (hK ▸ opD_eq) ha hb (nomark _)
theorem fe_ne (hK : g.K = X.K) (hr : Room k X.A) (ha : PE X a (tR g W fa)) (hb : PE X b (tR g W fb)) : PE X (.Compare a [.NotEq] [b] pos) (tF g W (fBin dNe fa fb)) := fe_cmp (op_neP hr.units) (hK ▸ opD_ne) ha hb (nomark _)
theorem ft_eq (hK : g.K = X.K) (hr : Room k X.A) (ha : PE X a (tR g W fa)) (hb : PE X b (tR g W fb)) : PT X (.Compare a [.Eq] [b] pos) (tT g W (fTest (fBin dEq fa fb))) := ft_cmp (op_eqP hr.units) (hK ▸ opD_eq) ha hb (nomark _)
theorem ft_ne (hK : g.K = X.K) (hr : Room k X.A) (ha : PE X a (tR g W fa)) (hb : PE X b (tR g W fb)) : PT X (.Compare a [.NotEq] [b] pos) (tT g W (fTest (fBin dNe fa fb))) := ft_cmp (op_neP hr.units) (hK ▸ opD_ne) ha hb (nomark _)
theorem fe_in (hK : g.K = X.K) (hr : Room k X.A) (ha : PE X a (tR g W fa)) (hb : PE X b (tR g W fb)) (hm : behindInMarks .In b = false := by rfl) : PE X (.Compare a [.In] [b] pos) (tF g W (fBin (dIn false) fa fb)) := fe_cmp (op_inP hr.units) (hK ▸ opD_in) ha hb hm
theorem fe_notIn (hK : g.K = X.K) (hr : Room k X.A) (ha : PE X a (tR g W fa)) (hb : PE X b (tR g W fb)) (hm : behindInMarks .NotIn b = false := by rfl) : PE X (.Compare a [.NotIn] [b] pos) (tF g W (fBin (dIn true) fa fb)) := fe_cmp (op_notInP hr.units) (hK ▸ opD_in) ha hb hm
theorem ft_in (hK : g.K = X.K) (hr : Room k X.A) (ha : PE X a (tR g W fa)) (hb : PE X b (tR g W fb)) (hm : behindInMarks .In b = false := by rfl) : PT X (.Compare a [.In] [b] pos) (tT g W (fTest (fBin (dIn false) fa fb))) := ft_cmp (op_inP hr.units) (hK ▸ opD_in) ha hb hm
theorem ft_notIn (hK : g.K = X.K) (hr : Room k X.A) (ha : PE X a (tR g W fa)) (hb : PE X b (tR g W fb)) (hm : behindInMarks .NotIn b = false := by rfl) : PT X (.Compare a [.NotIn] [b] pos) (tT g W (fTest (fBin (dIn true) fa fb))) := ft_cmp (op_notInP hr.units) (hK ▸ opD_in) ha hb hm
/-! is None -/
def isNon : D → Option Bool
  | .non => some true
  | .bl _ => some false
  | .int _ => some false
  | .str _ => some false
  | .lst _ => some false
  | .tup _ => some false
  | .obj _ _ _ => some false
  | _ => none
def dIsN (x y : D) : Option D := match y with
  | .non => (isNon x).map D.bl
  | _ => none
def dNotN (x y : D) : Option D := match y with
  | .non => (isNon x).map fun b => D.bl (!b)
  | _ => none
theorem isNon_rep {x : D} {b : Bool} {v : V} {Hs H : Hp} (s : Same Hs H) (e : isNon x = some b) (r : RepR g Hs H x v) : decide (v = .non) = b := by
  have r := r.now s
  cases x with
  | non => cases e; cases r; rfl
  | bl _ => cases e; cases r; rfl
  | int _ => cases e; cases r; rfl
  | str _ => cases e; cases r; rfl
  | lst _ => cases e; obtain ⟨a, vs, rfl, _⟩ := r; rfl
  | tup _ => cases e; obtain ⟨a, vs, rfl, _⟩ := r; rfl
  | obj _ _ _ => cases e; obtain ⟨a, dx, vs, rfl, _⟩ := r; rfl
  | _ => cases e
theorem opD_isN : OpD g (fun x y H Q => y = .non ∧ Q (.bl (decide (x = .non))) H) dIsN := fun x y d v w Hs H Q e s rx ry k => by
  cases y with
  | non =>
    obtain ⟨b, e1, e2⟩ := Option.map_eq_some_iff.mp e
    refine ⟨ry, ?_⟩
    rw [isNon_rep s e1 rx]
    exact k _ (by rw [← e2]; rfl)
  | _ => cases e
theorem opD_notN : OpD g (fun x y H Q => y = .non ∧ Q (.bl (!decide (x = .non))) H) dNotN := fun x y d v w Hs H Q e s rx ry k => by
  cases y with
  | non =>
    obtain ⟨b, e1, e2⟩ := Option.map_eq_some_iff.mp e
    refine ⟨ry, ?_⟩
    rw [isNon_rep s e1 rx]
    exact k _ (by rw [← e2]; rfl)
  | _ => cases e
theorem fe_is (ha : PE X a (tR g W fa)) (hb : PE X b (tR g W fb)) : PE X (.Compare a [.Is] [b] pos) (tF g W (fBin dIsN fa fb)) := fe_cmp op_isN opD_isN ha hb (nomark _)
theorem fe_isNot (ha : PE X a (tR g W fa)) (hb : PE X b (tR g W fb)) : PE X (.Compare a [.IsNot] [b] pos) (tF g W (fBin dNotN fa fb)) := fe_cmp op_notN opD_notN ha hb (nomark _)
theorem ft_is (ha : PE X a (tR g W fa)) (hb : PE X b (tR g W fb)) : PT X (.Compare a [.Is] [b] pos) (tT g W (fTest (fBin dIsN fa fb))) := ft_cmp op_isN opD_isN ha hb (nomark _)
theorem ft_isNot (ha : PE X a (tR g W fa)) (hb : PE X b (tR g W fb)) : PT X (.Compare a [.IsNot] [b] pos) (tT g W (fTest (fBin dNotN fa fb))) := ft_cmp op_notN opD_notN ha hb (nomark _)
/-! ### len, items -/
def dLen : D → Option D
  | .lst ds => some (.int ds.length)
  | .tup ds => some (.int ds.length)
  | .scr ns => some (.int ns.length)
  | .str x => if x.length ≤ 100000 then some (.int x.length) else none
  | _ => none
theorem callD_len : CallD1 g (fun xs H Q => ∃ x n, xs = [x] ∧ LenV g.K x H n ∧ Q (.int n) H) dLen := fun x d v Hs H Q e s rx k => by
  have r := rx.now s
  cases x with
  | lst ds =>
    cases e
    obtain ⟨a, vs, rfl, h2, h3⟩ := r
    exact ⟨_, ds.length, rfl, .inl ⟨vs, SqL.of h2, h3.len⟩, k _ rfl⟩
  | tup ds =>
    cases e
    obtain ⟨a, vs, rfl, h2, h3⟩ := r
    exact ⟨_, ds.length, rfl, .inr ⟨vs, h2, h3.len⟩, k _ rfl⟩
  | scr ns =>
    cases e
    obtain ⟨a, rfl, h2⟩ := r
    exact ⟨_, ns.length, rfl, .inl ⟨_, h2, by rw [List.length_map]⟩, k _ rfl⟩
  | str x =>
    unfold dLen at e
    dsimp only at e
    split at e
    · rename_i q
      cases e
      cases r
      exact ⟨_, x.length, rfl, ⟨Nat.le_trans q (by decide), rfl⟩, k _ rfl⟩
    · cases e
  | _ => cases e
theorem fe_len {p : Pos} (hK : g.K = X.K) (hm : X.mg "len" = none) (ha : PE X a (tR g W fa)) (hg : Gl X "len" := by rfl) (hs : starEach [a] X.env = (false, eval a X.env) :: starEach [] X.env := by rfl) :
    PE X (.Call (.Name "len" p) [a] [] pos) (tF g W (fUn dLen fa)) := fe_call1 call_len (hK ▸ callD_len) hg hm boot_len ha (by decide) (by decide) hs
def dIx : D → D → Option D
  | .lst ds, .int i => atI ds i
  | .tup ds, .int i => atI ds i
  | .scr ns, .int i => (atI ns i).map D.int
  | .str x, .int i => if x.length ≤ 100000 then (atI x.cps.toList i).map fun c => .str ⟨#[c]⟩ else none
  | _, _ => none
theorem atI_rep {H : Hp} {ds : List D} {vs : List V} {i : Int} {d : D} (h : RepL g H ds vs) (e : atI ds i = some d) : ∃ v, atI vs i = some v ∧ Rep g H d v := by
  unfold atI at e ⊢
  rw [← h.len]
  cases q : ixN ds.length i with
  | none =>
    rw [q] at e
    cases e
  | some j =>
    rw [q] at e
    exact h.get e
theorem atI_map {α β : Type} (f : α → β) (xs : List α) (i : Int) : atI (xs.map f) i = (atI xs i).map f := by
  unfold atI
  rw [List.length_map]
  cases ixN xs.length i with
  | none => rfl
  | some j => exact List.getElem?_map ..
theorem opD_ix : OpD g (rIx g.K) dIx := fun x y d v w Hs H Q e s rx ry k => by
  cases y with
  | int i =>
    cases x with
    | lst ds =>
      obtain ⟨a, vs, h1, h2, h3⟩ := rx Hs H (Lt.refl s)
      obtain ⟨u, e1, e2⟩ := atI_rep h3 e
      exact .inl ⟨a, vs, i, u, h1, repR_int ry, SqL.of h2, e1, k _ e2⟩
    | tup ds =>
      obtain ⟨a, vs, h1, h2, h3⟩ := rx
      obtain ⟨u, e1, e2⟩ := atI_rep h3 e
      exact .inr (.inl ⟨a, vs, i, u, h1, repR_int ry, sqT_same s h2, e1, k _ e2⟩)
    | scr ns =>
      obtain ⟨a, h1, h2⟩ := rx
      obtain ⟨n, e1, e2⟩ := Option.map_eq_some_iff.mp e
      exact .inl ⟨a, _, i, .int n, h1, repR_int ry, s.seq h2, by rw [atI_map, e1]; rfl, k _ (by rw [← e2]; rfl)⟩
    | str x =>
      unfold dIx at e
      dsimp only at e
      split at e
      · rename_i q
        obtain ⟨c, e1, e2⟩ := Option.map_eq_some_iff.mp e
        exact .inr (.inr ⟨x, i, c, rx, repR_int ry, Nat.le_trans q (by decide), e1, k _ (by rw [← e2]; rfl)⟩)
      · cases e
    | _ => cases e
  | _ => cases x <;> cases e
theorem fe_item (hK : g.K = X.K) (ha : PE X a (tR g W fa)) (hb : PE X b (tR g W fb)) (hs : PlainIx b := by exact fun _ _ => rfl) : PE X (.Subscript a b pos) (tF g W (fBin dIx fa fb)) := fe_ix ix_seq (hK ▸ opD_ix) ha hb hs
/-! ### lists: +, list(), tuple() -/
def dCat : D → D → Option (List D)
  | .lst xs, .lst ys => if xs.length + ys.length ≤ 100000 then some (xs ++ ys) else none
  | _, _ => none
theorem opN_cat : OpN g rCat dCat := fun x y ds v w Hs H Q e s rx ry k => by
  unfold dCat at e
  split at e
  · rename_i xs ys
    split at e
    · rename_i q
      cases e
      obtain ⟨a, vs, h1, h2, h3⟩ := rx Hs H (Lt.refl s)
      obtain ⟨b, ws, h4, h5, h6⟩ := ry Hs H (Lt.refl s)
      refine ⟨a, b, vs, ws, h1, h4, h2, h5, ?_, fun p np => ?_⟩
      · rw [← h3.len, ← h6.len]
        exact Nat.le_trans q (by decide)
      · exact k p _ Hs _ np (Lt.priv s np) (s.free np) upd_same (h3.append h6)
    · cases e
  · cases e
theorem fn_cat (ha : PE X a (tR g W fa)) (hb : PE X b (tR g W fb)) : PE X (.BinOp a .Add b pos) (tN g W (fBinN dCat fa fb)) := fn_bin op_cat opN_cat ha hb
def dList : D → Option (List D)
  | .lst xs => some xs
  | .tup xs => some xs
  | .scr ns => some (ns.map D.int)
  | _ => none
theorem callN_list : CallN1 g (fun xs H Q => ∃ p ys, xs = [.ref p] ∧ (SqL g.K H p ys ∨ SqT g.K H p ys) ∧ ∀ l, H l = none → Q (.ref l) (upd H l (.lst ys))) dList := fun x ds v Hs H Q e s rx k => by
  cases x with
  | lst xs =>
    cases e
    obtain ⟨a, vs, rfl, h2, h3⟩ := rx Hs H (Lt.refl s)
    exact ⟨a, vs, rfl, .inl (SqL.of h2), fun p np => k p _ Hs _ np (Lt.priv s np) (s.free np) upd_same h3⟩
  | tup xs =>
    cases e
    obtain ⟨a, vs, rfl, h2, h3⟩ := rx
    exact ⟨a, vs, rfl, .inr (sqT_same s h2), fun p np => k p _ Hs _ np (Lt.priv s np) (s.free np) upd_same h3⟩
  | scr ns =>
    cases e
    obtain ⟨a, rfl, h2⟩ := rx
    exact ⟨a, _, rfl, .inl (s.seq h2), fun p np => k p _ Hs _ np (Lt.priv s np) (s.free np) upd_same (RepL.ints ns)⟩
  | _ => cases e
theorem fn_list {p : Pos} (hK : g.K = X.K) (hm : X.mg "list" = none) (ha : PE X a (tR g W fa)) (hg : Gl X "list" := by rfl) (hs : starEach [a] X.env = (false, eval a X.env) :: starEach [] X.env := by rfl) :
    PE X (.Call (.Name "list" p) [a] [] pos) (tN g W (fUnN dList fa)) := fn_callT1 call_list_of (hK ▸ callN_list) hg hm (by decide +kernel) ha (by decide) (by decide) hs
def dTuple : D → Option D
  | .lst xs => some (.tup xs)
  | .tup xs => some (.tup xs)
  | _ => none
end
end Fx
set_option Elab.async false
set_option linter.all false
set_option maxRecDepth 100000
set_option maxHeartbeats 4000000
namespace Fx
open PySem L2
section
variable {g : G} {X : Cx} {W : WX} {a b e : Expr} {pos : Pos} {fa fb : S → Rs D}
/-! ### tuple(x) -/
theorem fe_tuple {p : Pos} (hK : g.K = X.K) (hm : X.mg "tuple" = none) (ha : PE X a (tR g W fa)) (hg : Gl X "tuple" := by rfl) (hs : starEach [a] X.env = (false, eval a X.env) :: starEach [] X.env := by rfl) :
    PE X (.Call (.Name "tuple" p) [a] [] pos) (tF g W (fUn dTuple fa)) := PE.imp (pe_callTy call_tuple_of hg hm (by decide +kernel) (pa_cons ha pa_nil hs) (by decide) (by decide) hs rfl) fun σ H Q ⟨B, st, Hs, G, q⟩ => by
  refine ⟨B, st, Hs, G, (Rz.bind q).imp fun x k v Hs1 H1 l1 rx => ?_⟩
  obtain ⟨d, e, k⟩ := Rz.ofO k
  cases x with
  | lst ds =>
    cases e
    obtain ⟨p, vs, rfl, h2, h3⟩ := rx Hs1 H1 (Lt.refl l1.sh)
    refine ⟨p, vs, rfl, .inl ⟨SqL.of h2, fun q nq => ?_⟩⟩
    have n := Lt.new (o := .tup vs) l1.sh nq
    exact k (.ref q) _ _ (l1.trans n) ⟨q, vs, rfl, SqT.of upd_same, RepL.mono n.ss _ _ h3⟩
  | tup ds =>
    cases e
    obtain ⟨p, vs, rfl, h2, h3⟩ := rx
    refine ⟨p, vs, rfl, .inr ⟨?_, k (.ref p) Hs1 H1 l1 ⟨p, vs, rfl, h2, h3⟩⟩⟩
    rw [← hK]
    exact sqT_same l1.sh h2
  | _ => cases e
/-! ### isinstance, of the built-in kinds -/
inductive Ty where
  | bool | int | list | tuple | str
def Ty.nm : Ty → String
  | .bool => "bool" | .int => "int" | .list => "list" | .tuple => "tuple" | .str => "str"
def Ty.py : Ty → Str
  | .bool => "bool" | .int => "int" | .list => "list" | .tuple => "tuple" | .str => "str"
def tyNm : D → Option String
  | .non => some "NoneType" | .bl _ => some "bool" | .int _ => some "int" | .str _ => some "str" | .lst _ => some "list" | .tup _ => some "tuple" | _ => none
def isTy : Ty → D → Option Bool
  | .bool, .bl _ => some true
  | .int, .bl _ => some true
  | .int, .int _ => some true
  | .list, .lst _ => some true
  | .tuple, .tup _ => some true
  | .str, .str _ => some true
  | _, .non => some false
  | _, .bl _ => some false
  | _, .int _ => some false
  | _, .str _ => some false
  | _, .lst _ => some false
  | _, .tup _ => some false
  | _, _ => none
def dIsT (T : Ty) (d : D) : Option D := (isTy T d).map D.bl
theorem isTy_kit {K : PySem.W.Frag} {T : Ty} {d : D} {b : Bool} (h : isTy T d = some b) : ∃ n, tyNm d = some n ∧ PySem.W.kitOne K (.type n) (.type T.nm) = some b := by
  cases T <;> cases d <;> first
    | (cases h; exact ⟨_, rfl, kit_ty (by decide +kernel)⟩)
    | (cases h)
theorem tyX_of {H : Hp} {d : D} {n : String} {v : V} (h : tyNm d = some n) (r : Rep g H d v) : TyX g.K H v (.type n) := by
  cases d with
  | non => cases h; cases r; exact .base .non
  | bl b => cases h; cases r; exact .base (.bl b)
  | int i => cases h; cases r; exact .base (.int i)
  | str x => cases h; cases r; exact .base (.str x)
  | lst ds =>
    cases h
    obtain ⟨a, vs, rfl, h2, _⟩ := r
    exact .base (.lst h2)
  | tup ds =>
    cases h
    obtain ⟨a, vs, rfl, h2, _⟩ := r
    rcases h2 with (h2 | ⟨o, h2⟩) | ⟨o, its, n, h1, h2, _⟩
    · exact .base (.tup h2)
    · exact .fTuple h2
    · exact .kTuple h1 h2
  | _ => cases h
theorem fe_isinst (T : Ty) {p p2 : Pos} (hK : g.K = X.K) (hm : X.mg "isinstance" = none) (hmT : X.mg T.py = none) (ha : PE X a (tR g W fa)) (hg : Gl X "isinstance" := by rfl) (hgT : Gl X T.py := by rfl)
    (hs : starEach [a, .Name T.py p2] X.env = (false, eval a X.env) :: starEach [.Name T.py p2] X.env := by rfl) (hs2 : starEach [.Name T.py p2] X.env = (false, eval (.Name T.py p2) X.env) :: starEach [] X.env := by rfl)
    (hpl : (backTo pos (starEach [.Name T.py p2] X.env)).any (·.1) = false := by rfl) :
    PE X (.Call (.Name "isinstance" p) [a, .Name T.py p2] [] pos) (tF g W (fUn (dIsT T) fa)) := by
  have hv : bootBuiltins T.py = some (.type T.nm) := by cases T <;> decide +kernel
  have hn : T.py ≠ "__name__" := by cases T <;> decide
  have hd : (T.py == ("__debug__" : Str)) = false := by cases T <;> decide
  refine PE.imp (pe_callB call_isi hg hm (by decide +kernel) (pa_cons ha (pa_cons (pe_bltn (v := .ty T.nm) hgT hmT hv rfl hn hd) pa_nil hs2) hs) (by decide) (by decide) hs hpl) fun σ H Q ⟨B, st, Hs, G, q⟩ => ?_
  refine ⟨B, st, Hs, G, (Rz.bind q).imp fun x k v Hs1 H1 l1 rx => ?_⟩
  obtain ⟨d, e, k⟩ := Rz.ofO k
  obtain ⟨bb, e1, e2⟩ := Option.map_eq_some_iff.mp e
  obtain ⟨n, q1, q2⟩ := isTy_kit (K := X.K) e1
  have ty := tyX_of (g := g) q1 (rx.now l1.sh)
  rw [hK] at ty
  exact ⟨v, .ty T.nm, .type n, .type T.nm, bb, rfl, .ty T.nm, ty, q2, k _ Hs1 H1 l1 (by rw [← e2]; rfl)⟩
/-! ### xs.insert(i, e) of an own list -/
variable {x : Str}
def sInsert (i : Nat) (fi fe : S → Rs D) : S → Option Out := fun st => match st[i]? with
  | some (.own ds) => stR (fi st) st fun j => stR (fe st) st fun d => match j with
    | .int j => if (decide (ds.length < 100000) && decide (0 ≤ j) && decide (j < 2 ^ 63)) = true then some (.nx (st.set i (.own (ds.take j.toNat ++ [d] ++ ds.drop j.toNat)))) else none
    | _ => none
  | _ => none
theorem fs_insert (i : Nat) {npos apos cpos : Pos} {fi fe : S → Rs D} (hi : PE X a (tF g W fi)) (he : PE X b (tF g W fe)) (hN : X.N[i]? = some x := by rfl) (hv : Vis X.env.scope x := by first | exact Or.inl rfl | exact Or.inr (Or.inl rfl) | exact Or.inr (Or.inr rfl))
    (hd : (x == ("__debug__" : Str)) = false := by decide) (hcd : (x == ("__classdict__" : Str)) = false := by decide)
    (hbase : attributeBase (.Name x npos) "insert" X.env (eval (.Name x npos) X.env) = eval (.Name x npos) X.env := by rfl)
    (hfew : ((backTo cpos (starEach [a, b] X.env)).all (fun x => !x.1) && (backToKw cpos (keywordEach [] X.env)).all (fun x => x.1.isSome) && decide ([a, b].length + ([] : List Keyword).length + (if ([] : List Keyword).isEmpty then 0 else 1) < 30)) = true := by rfl)
    (hline : (apos.endLine == cpos.line) = true := by rfl) (hs : starEach [a, b] X.env = (false, eval a X.env) :: starEach [b] X.env := by rfl) (hs2 : starEach [b] X.env = (false, eval b X.env) :: starEach [] X.env := by rfl)
    (hpl : (backTo cpos (starEach [b] X.env)).any (·.1) = false := by rfl)
    (hsw : swapsWith (.Call (.Attribute (.Name x npos) "insert" apos) [a, b] [] cpos) none pos.line X.env = pure false := by rfl) :
    PS X (.Expr (.Call (.Attribute (.Name x npos) "insert" apos) [a, b] [] cpos) pos) (tS g W (sInsert i fi fe)) :=
  PS.imp (ps_expr (pe_bm F.plainAttrs_list F.slot_list_insert F.type_list_insert mt_insert (pe_var hN hv hd hcd) (pa_cons hi (pa_cons he pa_nil hs2) hs) hbase hfew hline hs hpl) hsw) fun Dn σ H ⟨B, st, Hs, o, G, e, k⟩ => by
  unfold sInsert at e
  split at e
  · rename_i ds hi
    obtain ⟨l, vs, h1, h2, h3, h4, h5⟩ := G.own i ds hi
    refine ⟨.ref l, h1, .inl ⟨rfl, vs, SqL.of h4⟩, ?_⟩
    refine ⟨B, st, Hs, G, (stR_go G e k).imp fun j q v Hs1 H1 lt r => ?_⟩
    have G1 := G.later lt
    refine ⟨B, st, Hs1, G1, (stR_go G1 q (k.same lt.ss)).imp fun d q v2 Hs2 H2 lt2 r2 => ?_⟩
    cases j with
    | int j =>
      dsimp only at q
      split at q
      · rename_i hj
        simp only [Bool.and_eq_true, decide_eq_true_eq] at hj
        cases q
        cases r
        have G2 := G1.later lt2
        have h52 : RepL g Hs2 ds vs := RepL.mono (lt.ss.trans lt2.ss) _ _ h5
        have h42 : H2 l = some (.lst vs) := lt2.hh _ _ (lt.hh _ _ h4)
        refine ⟨l, vs, j, v2, rfl, rfl, h42, Nat.lt_of_lt_of_le (by rw [← h5.len]; exact hj.1.1) (by decide), hj.1.2, hj.2, ?_⟩
        exact k _ Hs2 _ (lt.trans lt2).ss (G2.write hi h1 (lt2.np _ _ (lt.hh _ _ h4) (lt.np _ _ h4 h2)) h3 h42 (((h52.take _).append (.one r2)).append (h52.drop _)))
      · cases q
    | _ => cases q
  · cases e
/-! ### sum, max, min -/
def dInts : List D → Option (List Int)
  | [] => some []
  | .int i :: ds => (dInts ds).map (i :: ·)
  | _ => none
theorem dInts_eq : ∀ {ds : List D} {ns : List Int}, dInts ds = some ns → ds = ns.map D.int
  | [], _, h => by cases h; rfl
  | .int i :: ds, ns, h => by
    obtain ⟨ms, h1, h2⟩ := Option.map_eq_some_iff.mp (show (dInts ds).map (i :: ·) = some ns from h)
    subst h2
    rw [dInts_eq h1]
    rfl
  | .non :: _, _, h => by cases h
  | .bl _ :: _, _, h => by cases h
  | .str _ :: _, _, h => by cases h
  | .lst _ :: _, _, h => by cases h
  | .tup _ :: _, _, h => by cases h
  | .scr _ :: _, _, h => by cases h
  | .obj _ _ _ :: _, _, h => by cases h
  | .exc _ _ :: _, _, h => by cases h
theorem dInts_map (ns : List Int) : dInts (ns.map D.int) = some ns := by
  induction ns with
  | nil => rfl
  | cons n ns ih =>
    show (dInts (ns.map D.int)).map (n :: ·) = some (n :: ns)
    rw [ih]
    rfl
def dSum (x : D) : Option D := (asL x).bind fun ds => (dInts ds).map fun ns => .int ns.sum
theorem callD_sum : CallD1 g (rSum g.K) dSum := fun x d v Hs H Q e s rx k => by
  obtain ⟨ds, e1, e⟩ := Option.bind_eq_some_iff.mp e
  obtain ⟨ns, e2, e3⟩ := Option.map_eq_some_iff.mp e
  obtain ⟨a, vs, rfl, h2, h3⟩ := asL_rd e1 s rx
  rw [dInts_eq e2] at h3
  have q := RepL.of_ints h3
  subst q
  exact ⟨a, ns, rfl, h2, k _ (by rw [← e3]; rfl)⟩
theorem fe_sum {p : Pos} (hK : g.K = X.K) (hc : X.calm = true) (hm : X.mg "sum" = none) (ha : PE X a (tR g W fa)) (hg : Gl X "sum" := by rfl) (hs : starEach [a] X.env = (false, eval a X.env) :: starEach [] X.env := by rfl) :
    PE X (.Call (.Name "sum" p) [a] [] pos) (tF g W (fUn dSum fa)) := fe_call1 (cr_sum hc) (hK ▸ callD_sum) hg hm (by decide +kernel) ha (by decide) (by decide) hs
def dMax2 := dI2 fun i j => .int (if j > i then j else i)
def dMin2 := dI2 fun i j => .int (if j < i then j else i)
theorem callD_max2 : CallD2 g (fun xs H Q => ∃ i j, xs = [.int i, .int j] ∧ Q (.int (if j > i then j else i)) H) dMax2 := fun x y d v w Hs H Q e s rx ry k => by
  unfold dMax2 dI2 at e
  split at e
  · cases e
    exact ⟨_, _, by rw [repR_int rx, repR_int ry], k _ rfl⟩
  · cases e
theorem callD_min2 : CallD2 g (fun xs H Q => ∃ i j, xs = [.int i, .int j] ∧ Q (.int (if j < i then j else i)) H) dMin2 := fun x y d v w Hs H Q e s rx ry k => by
  unfold dMin2 dI2 at e
  split at e
  · cases e
    exact ⟨_, _, by rw [repR_int rx, repR_int ry], k _ rfl⟩
  · cases e
theorem fe_max2 {p : Pos} (hc : X.calm = true) (hm : X.mg "max" = none) (ha : PE X a (tR g W fa)) (hb : PE X b (tR g W fb)) (hg : Gl X "max" := by rfl)
    (hs : starEach [a, b] X.env = (false, eval a X.env) :: starEach [b] X.env := by rfl) (hs2 : starEach [b] X.env = (false, eval b X.env) :: starEach [] X.env := by rfl) (hpl : (backTo pos (starEach [b] X.env)).any (·.1) = false := by rfl) :
    PE X (.Call (.Name "max" p) [a, b] [] pos) (tF g W (fBin dMax2 fa fb)) := fe_call2 (call_max2 hc) callD_max2 hg hm (by decide +kernel) ha hb (by decide) (by decide) hs hs2 hpl
theorem fe_min2 {p : Pos} (hc : X.calm = true) (hm : X.mg "min" = none) (ha : PE X a (tR g W fa)) (hb : PE X b (tR g W fb)) (hg : Gl X "min" := by rfl)
    (hs : starEach [a, b] X.env = (false, eval a X.env) :: starEach [b] X.env := by rfl) (hs2 : starEach [b] X.env = (false, eval b X.env) :: starEach [] X.env := by rfl) (hpl : (backTo pos (starEach [b] X.env)).any (·.1) = false := by rfl) :
    PE X (.Call (.Name "min" p) [a, b] [] pos) (tF g W (fBin dMin2 fa fb)) := fe_call2 (call_min2 hc) callD_min2 hg hm (by decide +kernel) ha hb (by decide) (by decide) hs hs2 hpl
def dInt1 : D → Option D
  | .int i => some (.int i)
  | .bl b => some (.int (if b then 1 else 0))
  | _ => none
theorem callD_int1 : CallD1 g (fun xs H Q => (∃ i, xs = [.int i] ∧ Q (.int i) H) ∨ ∃ k, xs = [.bl k] ∧ Q (.int (if k then 1 else 0)) H) dInt1 := fun x d v Hs H Q e s rx k => by
  cases x with
  | int i =>
    cases e
    exact .inl ⟨i, by rw [repR_int rx], k _ rfl⟩
  | bl b =>
    cases e
    exact .inr ⟨b, by rw [repR_bl rx], k _ rfl⟩
  | _ => cases e
theorem fe_int1 {p : Pos} (hm : X.mg "int" = none) (ha : PE X a (tR g W fa)) (hg : Gl X "int" := by rfl) (hs : starEach [a] X.env = (false, eval a X.env) :: starEach [] X.env := by rfl) :
    PE X (.Call (.Name "int" p) [a] [] pos) (tF g W (fUn dInt1 fa)) := fe_callT1 call_int1 callD_int1 hg hm (by decide +kernel) ha (by decide) (by decide) hs
/-! ### a range from its end -/
variable {tg : Expr}
def tPR (g : G) (W : WX) (f : S → Rs (Int × Int)) : L2.St → Hp → (Int → Int → Hp → Prop) → Prop := fun σ H R => ∃ B st Hs, Good g B st σ Hs H ∧ Rz g W σ Hs H (f st) fun p => ∀ Hs' H', Lt Hs H Hs' H' → R p.1 p.2 H'
end
/-! ### the law -/
theorem law_sp {gf : List D → Option R} (ht : ∀ ns : List Int, ns.length ≤ 63 → gf [.scr ns] = some (.ret (.bl true))) {K : PySem.W.Frag} {cl : Nat → Addr} {H : Hp} {a : Addr} {ns : List Int} (hl : ns.length ≤ 63) (hS : SqL K H a (ns.map V.int)) :
    SpF ⟨K, cl⟩ gf [.ref a] H (fun v _ => v = .bl true) (fun _ _ _ => False) := ⟨H, [.scr ns], .ret (.bl true), Same.refl _, ⟨.ref a, [], rfl, ⟨a, rfl, hS⟩, rfl⟩, ht ns hl, fun _ _ _ _ r => r⟩
theorem cx_false {P : Program} {w : World} {H : Hp} {s s' : Shared} {e : Value} (h : L2.CX P w [] H s (fun _ _ _ => False) e s') : False := by
  obtain ⟨_, _, _, _, _, _, _, _, _, _, _, _, z⟩ := h
  exact z
end Fx
set_option Elab.async false
set_option linter.all false
set_option maxRecDepth 100000
set_option maxHeartbeats 4000000
namespace Fx
open PySem L2
/-! ### loops, plainly -/
theorem forL_cons (b : D → S → Option S) (f : S → Option Out) (d : D) (ds : List D) (st : S) : forL b f (d :: ds) st = (b d st).bind fun s1 => (f s1).bind fun o => match o with
    | .nx s => forL b f ds s
    | .ct s => forL b f ds s
    | .bk s => some (.nx s)
    | o => some o := rfl
theorem forL_pre {b : D → S → Option S} {f : S → Option Out} : ∀ {items : List D} {st : S} (P : List D → S → Prop) (h0 : P [] st)
    (hs : ∀ pre d post s, items = pre ++ d :: post → P pre s → ∃ s1 o s2, b d s = some s1 ∧ f s1 = some o ∧ (o = .nx s2 ∨ o = .ct s2) ∧ P (pre ++ [d]) s2), ∃ s', forL b f items st = some (.nx s') ∧ P items s'
  | [], st, P, h0, _ => ⟨st, rfl, h0⟩
  | d :: ds, st, P, h0, hs => by
    obtain ⟨s1, o, s2, e1, e2, e3, p⟩ := hs [] d ds st rfl h0
    obtain ⟨s', e4, p4⟩ := forL_pre (items := ds) (st := s2) (fun pre s => P (d :: pre) s) p (fun pre d' post s e q => by
      have h := hs (d :: pre) d' post s (by rw [e]; rfl) q
      exact h)
    refine ⟨s', ?_, p4⟩
    rw [forL_cons, e1]
    show ((f s1).bind _) = _
    rw [e2]
    rcases e3 with rfl | rfl <;> exact e4
theorem forL_inv {b : D → S → Option S} {f : S → Option Out} {items : List D} {st : S} (P : S → Prop) (h0 : P st)
    (hs : ∀ d ∈ items, ∀ s, P s → ∃ s1 o s2, b d s = some s1 ∧ f s1 = some o ∧ (o = .nx s2 ∨ o = .ct s2) ∧ P s2) : ∃ s', forL b f items st = some (.nx s') ∧ P s' :=
  forL_pre (fun _ s => P s) h0 fun pre d post s e p => hs d (by rw [e]; simp) s p
/-- what a yes or no comes to -/
def blOf : Option R → Option Bool
  | some (.ret (.bl b)) => some b
  | _ => none
theorem blOf_eq {r : Option R} {b : Bool} (h : blOf r = some b) : r = some (.ret (.bl b)) := by
  unfold blOf at h
  split at h
  · cases h
    rfl
  · cases h
def intOf : Option R → Option Int
  | some (.ret (.int b)) => some b
  | _ => none
theorem intOf_eq {r : Option R} {b : Int} (h : intOf r = some b) : r = some (.ret (.int b)) := by
  unfold intOf at h
  split at h
  · cases h
    rfl
  · cases h
theorem range_fin {n : Nat} {i : Int} (h0 : 0 ≤ i) (h1 : i < n) : ∃ k : Fin n, i = (k.val : Int) := ⟨⟨i.toNat, by omega⟩, by show i = ((i.toNat : Nat) : Int); omega⟩
/-! ### runs, step by step -/
def Ev (f : S → Option Out) (st : S) (P : Out → Prop) : Prop := ∃ o, f st = some o ∧ P o
theorem Ev.imp {f : S → Option Out} {st : S} {P Q : Out → Prop} (h : Ev f st P) (i : ∀ o, P o → Q o) : Ev f st Q := by
  obtain ⟨o, e, p⟩ := h
  exact ⟨o, e, i o p⟩
/-- what follows -/
def thenP (h : S → Option Out) (P : Out → Prop) : Out → Prop
  | .nx s => Ev h s P
  | o => P o
theorem ev_seq {f h : S → Option Out} {st : S} {P : Out → Prop} (q : Ev f st (thenP h P)) : Ev (sSeq f h) st P := by
  obtain ⟨o, e, p⟩ := q
  unfold Ev sSeq
  show ∃ o, ((f st).bind _) = some o ∧ P o
  rw [e]
  cases o with
  | nx s => exact p
  | rt d => exact ⟨_, rfl, p⟩
  | rtN d => exact ⟨_, rfl, p⟩
  | bk d => exact ⟨_, rfl, p⟩
  | ct d => exact ⟨_, rfl, p⟩
  | xr c n s => exact ⟨_, rfl, p⟩
/-- a word between two statements -/
def nxP (M : S → Prop) : Out → Prop
  | .nx s => M s
  | _ => False
theorem ev_cut {f h : S → Option Out} {st : S} {P : Out → Prop} (M : S → Prop) (h1 : Ev f st (nxP M)) (h2 : ∀ s, M s → Ev h s P) : Ev (sSeq f h) st P := ev_seq (h1.imp fun o p => by
  cases o with
  | nx s => exact h2 s p
  | _ => exact p.elim)
theorem ev_next {st : S} {P : Out → Prop} (p : P (.nx st)) : Ev sNext st P := ⟨_, rfl, p⟩
theorem ev_asg {i : Nat} {f : S → Rs D} {st : S} {P : Out → Prop} {d : D} (e : f st = .ok d) (p : P (.nx (st.set i (.val d)))) : Ev (sAsg i f) st P := ⟨_, by unfold sAsg; rw [e]; rfl, p⟩
theorem ev_asgN {i : Nat} {f : S → Rs (List D)} {st : S} {P : Out → Prop} {ds : List D} (e : f st = .ok ds) (p : P (.nx (st.set i (.own ds)))) : Ev (sAsgN i f) st P := ⟨_, by unfold sAsgN; rw [e]; rfl, p⟩
theorem ev_aug {op : Int → Int → Int} {i : Nat} {f : S → Rs D} {st : S} {P : Out → Prop} {a b : Int} (h : st[i]? = some (.val (.int a))) (e : f st = .ok (.int b)) (p : P (.nx (st.set i (.val (.int (op a b)))))) : Ev (sAug op i f) st P := ⟨_, by unfold sAug; rw [h]; dsimp only; rw [e]; rfl, p⟩
theorem ev_own1 {op : List D → D → Option (List D)} {i : Nat} {f : S → Rs D} {st : S} {P : Out → Prop} {ds es : List D} {d : D} (h : st[i]? = some (.own ds)) (e : f st = .ok d) (q : op ds d = some es) (p : P (.nx (st.set i (.own es)))) : Ev (sOwn1 op i f) st P :=
  ⟨_, by unfold sOwn1; rw [h]; dsimp only; rw [e]; show (op ds d).bind _ = _; rw [q]; rfl, p⟩
theorem ev_append {i : Nat} {f : S → Rs D} {st : S} {P : Out → Prop} {ds : List D} {d : D} (h : st[i]? = some (.own ds)) (e : f st = .ok d) (q : ds.length < 100000) (p : P (.nx (st.set i (.own (ds ++ [d]))))) : Ev (sOwn1 dAppend i f) st P :=
  ev_own1 h e (by unfold dAppend; rw [if_pos q]) p
theorem ev_clear {i : Nat} {st : S} {P : Out → Prop} {ds : List D} (h : st[i]? = some (.own ds)) (p : P (.nx (st.set i (.own [])))) : Ev (sOwn0 (fun _ => some []) i) st P := ⟨_, by unfold sOwn0; rw [h]; rfl, p⟩
theorem ev_setIx {i : Nat} {fi fe : S → Rs D} {st : S} {P : Out → Prop} {ds : List D} {d : D} {j : Int} {n : Nat} (h : st[i]? = some (.own ds)) (e : fe st = .ok d) (ei : fi st = .ok (.int j)) (q : ixN ds.length j = some n) (p : P (.nx (st.set i (.own (ds.set n d))))) : Ev (sSetIx i fi fe) st P :=
  ⟨_, by unfold sSetIx stR; rw [e]; dsimp only; rw [ei, h]; show (ixN ds.length j).bind _ = _; rw [q]; rfl, p⟩
theorem ev_insert {i : Nat} {fi fe : S → Rs D} {st : S} {P : Out → Prop} {ds : List D} {d : D} {j : Int} (h : st[i]? = some (.own ds)) (ei : fi st = .ok (.int j)) (e : fe st = .ok d) (q : ds.length < 100000 ∧ 0 ≤ j ∧ j < 2 ^ 63) (p : P (.nx (st.set i (.own (ds.take j.toNat ++ [d] ++ ds.drop j.toNat))))) : Ev (sInsert i fi fe) st P :=
  ⟨_, by
    unfold sInsert
    rw [h]
    dsimp only
    rw [ei]
    show stR (fe st) st _ = _
    rw [e]
    show (if (decide (ds.length < 100000) && decide (0 ≤ j) && decide (j < 2 ^ 63)) = true then _ else _) = _
    rw [if_pos (by simp [q.1, q.2.1]; exact q.2.2)], p⟩
theorem ev_if {c : S → Rs Bool} {f h : S → Option Out} {st : S} {P : Out → Prop} {b : Bool} (e : c st = .ok b) (h1 : b = true → Ev f st P) (h2 : b = false → Ev h st P) : Ev (sIf c f h) st P := by
  unfold Ev sIf
  rw [e]
  show ∃ o, (if b = true then f st else h st) = some o ∧ P o
  cases b with
  | true => exact h1 rfl
  | false => exact h2 rfl
theorem ev_ret {f : S → Rs D} {st : S} {P : Out → Prop} {d : D} (e : f st = .ok d) (p : P (.rt d)) : Ev (sRet f) st P := ⟨_, by unfold sRet; rw [e]; rfl, p⟩
theorem ev_retN {f : S → Rs (List D)} {st : S} {P : Out → Prop} {ds : List D} (e : f st = .ok ds) (p : P (.rtN ds)) : Ev (sRetN f) st P := ⟨_, by unfold sRetN; rw [e]; rfl, p⟩
theorem ev_retO {i : Nat} {st : S} {P : Out → Prop} {ds : List D} (h : st[i]? = some (.own ds)) (p : P (.rtN ds)) : Ev (sRetO i) st P := ⟨_, by unfold sRetO; rw [h], p⟩
theorem ev_retOv {i : Nat} {st : S} {P : Out → Prop} {d : D} (h : st[i]? = some (.val d)) (p : P (.rt d)) : Ev (sRetO i) st P := ⟨_, by unfold sRetO; rw [h], p⟩
theorem ev_freeze {i : Nat} {f : S → Option Out} {st : S} {P : Out → Prop} {ds : List D} (h : st[i]? = some (.own ds)) (p : Ev f (st.set i (.val (.lst ds))) P) : Ev (sFreeze i f) st P := by
  obtain ⟨o, e, q⟩ := p
  exact ⟨o, by unfold sFreeze; rw [h]; exact e, q⟩
/-- a turn's end within a loop -/
def turnP (N : S → Prop) (P : Out → Prop) : Out → Prop
  | .nx s => N s
  | .ct s => N s
  | .bk s => P (.nx s)
  | o => P o
/-- a walk over items: J says what holds after how many -/
theorem ev_forL {b : D → S → Option S} {f : S → Option Out} {P : Out → Prop} : ∀ {items : List D} {st : S} (J : List D → S → Prop) (h0 : J [] st)
    (hs : ∀ pre d post s, items = pre ++ d :: post → J pre s → ∃ s1, b d s = some s1 ∧ Ev f s1 (turnP (fun s2 => J (pre ++ [d]) s2) P)) (hd : ∀ s, J items s → P (.nx s)), Ev (fun st => forL b f items st) st P
  | [], st, J, h0, _, hd => ⟨_, rfl, hd st h0⟩
  | d :: ds, st, J, h0, hs, hd => by
    obtain ⟨s1, e1, o, e2, p⟩ := hs [] d ds st rfl h0
    have ih : ∀ s, J [d] s → Ev (fun st => forL b f ds st) s P := fun s js => ev_forL (items := ds) (st := s) (fun pre s => J (d :: pre) s) js (fun pre d' post s e q => by
      have h := hs (d :: pre) d' post s (by rw [e]; rfl) q
      exact h) hd
    unfold Ev
    show ∃ o, forL b f (d :: ds) st = some o ∧ P o
    rw [forL_cons, e1]
    show ∃ o, ((f s1).bind _) = some o ∧ P o
    rw [e2]
    cases o with
    | nx s => exact ih s p
    | ct s => exact ih s p
    | bk s => exact ⟨_, rfl, p⟩
    | rt d => exact ⟨_, rfl, p⟩
    | rtN d => exact ⟨_, rfl, p⟩
    | xr c n s => exact ⟨_, rfl, p⟩
theorem ev_for {fi : S → Rs (List D)} {b : D → S → Option S} {f : S → Option Out} {st : S} {P : Out → Prop} {items : List D} (e : fi st = .ok items) (J : List D → S → Prop) (h0 : J [] st)
    (hs : ∀ pre d post s, items = pre ++ d :: post → J pre s → ∃ s1, b d s = some s1 ∧ Ev f s1 (turnP (fun s2 => J (pre ++ [d]) s2) P)) (hd : ∀ s, J items s → P (.nx s)) : Ev (sFor fi b f) st P := by
  unfold Ev sFor
  rw [e]
  exact ev_forL J h0 hs hd
theorem ev_forO {i : Nat} {b : D → S → Option S} {f : S → Option Out} {st : S} {P : Out → Prop} {items : List D} (e : st[i]? = some (.own items)) (J : List D → S → Prop) (h0 : J [] (st.set i .pin)) {P' : Out → Prop}
    (hs : ∀ pre d post s, items = pre ++ d :: post → J pre s → ∃ s1, b d s = some s1 ∧ Ev f s1 (turnP (fun s2 => J (pre ++ [d]) s2) P')) (hd : ∀ s, J items s → P' (.nx s))
    (hb : ∀ s, P' (.nx s) → ∃ s', backO i items s = some s' ∧ P (.nx s')) (hr : ∀ d, P' (.rt d) → P (.rt d)) (hn : ∀ d, P' (.rtN d) → P (.rtN d)) (hx : ∀ c n s, ¬ P' (.xr c n s)) (hk : ∀ s, ¬ P' (.bk s)) (hc : ∀ s, ¬ P' (.ct s)) : Ev (sForO i b f) st P := by
  obtain ⟨o, e1, p⟩ := ev_forL J h0 hs hd
  unfold Ev sForO
  rw [e]
  show ∃ o, ((forL b f items (st.set i .pin)).bind _) = some o ∧ P o
  have e1 : forL b f items (st.set i .pin) = some o := e1
  rw [e1]
  cases o with
  | nx s =>
    obtain ⟨s', q1, q2⟩ := hb s p
    exact ⟨.nx s', by show (backO i items s).map _ = _; rw [q1]; rfl, q2⟩
  | ct s => exact absurd p (hc s)
  | bk s => exact absurd p (hk s)
  | rt d => exact ⟨_, rfl, hr d p⟩
  | rtN d => exact ⟨_, rfl, hn d p⟩
  | xr c n s => exact absurd p (hx c n s)
/-- while, by a measure below the fuel -/
theorem ev_whileL {c : S → Rs Bool} {f : S → Option Out} {P : Out → Prop} (J : S → Prop) (μ : S → Nat)
    (hs : ∀ s, J s → ∃ b, c s = .ok b ∧ (b = true → Ev f s (turnP (fun s2 => J s2 ∧ μ s2 < μ s) P)) ∧ (b = false → P (.nx s))) : ∀ (n : Nat) (st : S), J st → μ st < n → Ev (whileL c f n) st P
  | 0, st, _, h => absurd h (Nat.not_lt_zero _)
  | n + 1, st, j, h => by
    obtain ⟨b, e, h1, h2⟩ := hs st j
    unfold Ev
    show ∃ o, stR (c st) st _ = some o ∧ P o
    rw [e]
    show ∃ o, (if b = true then _ else _) = some o ∧ P o
    cases b with
    | false => exact ⟨_, rfl, h2 rfl⟩
    | true =>
      obtain ⟨o, e2, p⟩ := h1 rfl
      rw [if_pos rfl, e2]
      cases o with
      | nx s => exact ev_whileL J μ hs n s p.1 (by have := p.2; omega)
      | ct s => exact ev_whileL J μ hs n s p.1 (by have := p.2; omega)
      | bk s => exact ⟨_, rfl, p⟩
      | rt d => exact ⟨_, rfl, p⟩
      | rtN d => exact ⟨_, rfl, p⟩
      | xr c n s => exact ⟨_, rfl, p⟩
theorem ev_while {n : Nat} {c : S → Rs Bool} {f : S → Option Out} {st : S} {P : Out → Prop} (J : S → Prop) (μ : S → Nat) (h0 : J st) (hm : μ st < n)
    (hs : ∀ s, J s → ∃ b, c s = .ok b ∧ (b = true → Ev f s (turnP (fun s2 => J s2 ∧ μ s2 < μ s) P)) ∧ (b = false → P (.nx s))) : Ev (sWhile (fun _ => n) c f) st P := ev_whileL J μ hs n st h0 hm
/-- a def by a run of its body -/
theorem run_of {f : S → Option Out} {st : S} {P : Option R → Prop} (h : Ev f st fun o => P (outR o)) : P ((f st).bind outR) := by
  obtain ⟨o, e, p⟩ := h
  rw [e]
  exact p
/-! ### expressions, step by step -/
theorem ok_bin {op : D → D → Option D} {a b : S → Rs D} {st : S} {x y d : D} (e1 : a st = .ok x) (e2 : b st = .ok y) (e3 : op x y = some d) : fBin op a b st = .ok d := by
  unfold fBin
  rw [e1, bind_ok, e2, bind_ok, e3]
  rfl
theorem ok_un {op : D → Option D} {a : S → Rs D} {st : S} {x d : D} (e1 : a st = .ok x) (e3 : op x = some d) : fUn op a st = .ok d := by
  unfold fUn
  rw [e1, bind_ok, e3]
  rfl
theorem ok_unN {op : D → Option (List D)} {a : S → Rs D} {st : S} {x : D} {d : List D} (e1 : a st = .ok x) (e3 : op x = some d) : fUnN op a st = .ok d := by
  unfold fUnN
  rw [e1, bind_ok, e3]
  rfl
theorem ok_binN {op : D → D → Option (List D)} {a b : S → Rs D} {st : S} {x y : D} {d : List D} (e1 : a st = .ok x) (e2 : b st = .ok y) (e3 : op x y = some d) : fBinN op a b st = .ok d := by
  unfold fBinN
  rw [e1, bind_ok, e2, bind_ok, e3]
  rfl
theorem ok_cons {f : S → Rs D} {h : S → Rs (List D)} {st : S} {d : D} {ds : List D} (e1 : f st = .ok d) (e2 : h st = .ok ds) : fCons f h st = .ok (d :: ds) := by
  unfold fCons
  rw [e1, bind_ok, e2, bind_ok]
theorem ok_call {g : List D → Option R} {fa : S → Rs (List D)} {st : S} {ds : List D} {d : D} (e1 : fa st = .ok ds) (e2 : g ds = some (.ret d)) : fCall g fa st = .ok d := by
  unfold fCall
  rw [e1, bind_ok, e2]
  rfl
theorem ok_callL {g : List D → Option R} {fa : S → Rs (List D)} {st : S} {ds es : List D} (e1 : fa st = .ok ds) (e2 : g ds = some (.new es)) : fCall g fa st = .ok (.lst es) := by
  unfold fCall
  rw [e1, bind_ok, e2]
  rfl
theorem ok_callN {g : List D → Option R} {fa : S → Rs (List D)} {st : S} {ds es : List D} (e1 : fa st = .ok ds) (e2 : g ds = some (.new es)) : fCallN g fa st = .ok es := by
  unfold fCallN
  rw [e1, bind_ok, e2]
  rfl
theorem ok_callR {g : List D → Option R} {fa : S → Rs (List D)} {st : S} {ds : List D} {d : D} (e1 : fa st = .ok ds) (e2 : g ds = some (.ret d)) (e3 : scal1 d = .ok d) : fCallR g fa st = .ok d := by
  unfold fCallR
  rw [e1, bind_ok, e2]
  exact e3
theorem ok_test {f : S → Rs D} {st : S} {b : Bool} (e : f st = .ok (.bl b)) : fTest f st = .ok b := by
  unfold fTest
  rw [e]
  rfl
theorem ok_not {f : S → Rs Bool} {st : S} {b : Bool} (e : f st = .ok b) : fNot f st = .ok (!b) := by
  unfold fNot
  rw [e]
  rfl
theorem ok_and {f h : S → Rs Bool} {st : S} {a b : Bool} (e : f st = .ok a) (e2 : a = true → h st = .ok b) (e3 : a = false → b = false) : fAnd f h st = .ok b := by
  unfold fAnd
  rw [e]
  cases a with
  | true => exact e2 rfl
  | false =>
    rw [e3 rfl]
    rfl
theorem ok_and2 {f h : S → Rs Bool} {st : S} {a b : Bool} (e : f st = .ok a) (e2 : a = true → h st = .ok b) : fAnd f h st = .ok (a && b) := by
  unfold fAnd
  rw [e]
  cases a with
  | true =>
    rw [Bool.true_and]
    exact e2 rfl
  | false => rfl
theorem ok_or2 {f h : S → Rs Bool} {st : S} {a b : Bool} (e : f st = .ok a) (e2 : a = false → h st = .ok b) : fOr f h st = .ok (a || b) := by
  unfold fOr
  rw [e]
  cases a with
  | false =>
    rw [Bool.false_or]
    exact e2 rfl
  | true => rfl
theorem ok_frz {f : S → Rs (List D)} {st : S} {ds : List D} (e : f st = .ok ds) : fFrz f st = .ok (.lst ds) := by
  unfold fFrz
  rw [e]
  rfl
/-- comprehensions whose elements answer for all items -/
theorem lcL_map {b : D → S → Option S} {ft : S → Rs Bool} {fe : S → Rs D} {st : S} (p : D → Bool) (v : D → D) : ∀ {items : List D}, (∀ d ∈ items, ∃ s1, b d st = some s1 ∧ ft s1 = .ok (p d) ∧ (p d = true → fe s1 = .ok (v d))) →
    lcL b ft fe st items = .ok ((items.filter p).map v)
  | [], _ => rfl
  | d :: ds, h => by
    obtain ⟨s1, e1, e2, e3⟩ := h d List.mem_cons_self
    have ih := lcL_map p v (items := ds) fun d hd => h d (List.mem_cons_of_mem _ hd)
    unfold lcL
    rw [e1]
    show (noE (ft s1)).bind _ = _
    rw [e2]
    show (if p d = true then _ else _) = _
    cases hp : p d with
    | true =>
      rw [if_pos rfl, e3 hp]
      show (lcL b ft fe st ds).bind _ = _
      rw [ih, List.filter_cons, if_pos hp]
      rfl
    | false =>
      rw [if_neg Bool.false_ne_true, ih, List.filter_cons, if_neg (by rw [hp]; decide)]
theorem ok_lc {fi : S → Rs (List D)} {vs : List Nat} {b : D → S → Option S} {ft : S → Rs Bool} {fe : S → Rs D} {st : S} {items : List D} (p : D → Bool) (v : D → D) (e : fi st = .ok items) (hl : items.length ≤ 100000)
    (h : ∀ d ∈ items, ∃ s1, b d (wipeS st vs) = some s1 ∧ ft s1 = .ok (p d) ∧ (p d = true → fe s1 = .ok (v d))) : fLc fi vs b ft fe st = .ok ((items.filter p).map v) := by
  unfold fLc
  rw [e, bind_ok]
  unfold few
  rw [if_pos hl]
  exact lcL_map p v h
/-! ### what == is of numbers, truths -/
@[simp] theorem eqD_int (i j : Int) : eqD (.int i) (.int j) = (i == j) := rfl
@[simp] theorem eqD_bl (i j : Bool) : eqD (.bl i) (.bl j) = (i == j) := rfl
theorem dShl_nat (i : Int) (k : Nat) (hk : k ≤ 1000) (hi : i.natAbs < 2 ^ 64) : dShl (.int i) (.int (k : Int)) = some (.int (i * 2 ^ k)) := by
  show (if (decide (0 ≤ (k : Int)) && decide ((k : Int) ≤ 1000000) && decide (i.natAbs < 2 ^ 64)) = true then some (D.int (i * 2 ^ (k : Int).toNat)) else none) = _
  rw [if_pos (by
    rw [Bool.and_eq_true, Bool.and_eq_true]
    exact ⟨⟨decide_eq_true (by omega), decide_eq_true (by omega)⟩, decide_eq_true hi⟩), Int.toNat_natCast]
theorem dShl_one (k : Nat) (hk : k ≤ 1000) : dShl (.int 1) (.int (k : Int)) = some (.int (1 * 2 ^ k)) := dShl_nat 1 k hk (by decide)
theorem dShr_nat (i : Int) (k : Nat) : dShr (.int i) (.int (k : Int)) = some (.int (i / 2 ^ k)) := by
  show (if decide (0 ≤ (k : Int)) = true then some (D.int (i / 2 ^ (k : Int).toNat)) else none) = _
  rw [if_pos (decide_eq_true (by omega)), Int.toNat_natCast]
end Fx
set_option Elab.async false
set_option linter.all false
set_option maxRecDepth 100000
set_option maxHeartbeats 4000000
namespace Fy
open PySem L2 Fx
def N_within : List Str := ["one", "two"]
def f_within : S → Option Out :=
  (sRet (fBin dEq (fBin dAnd (fRead 0) (fRead 1)) (fRead 0)))
def g_within : List D → Option R := runG N_within 2 f_within
theorem g_within_run (d0 d1 : D) : g_within [d0, d1] = (f_within [.val d0, .val d1]).bind outR := rfl
def N__law_cell_at : List Str := ["_law_script", "_law_k"]
def f__law_cell_at : S → Option Out :=
  (sSeq (sIf (fTest (fBin dLt (fRead 1) (fUn dLen (fRead 0)))) (sRet (fBin dIx (fRead 0) (fRead 1))) sNext)
  (sRet (fC (.int 0))))
def g__law_cell_at : List D → Option R := runG N__law_cell_at 2 f__law_cell_at
theorem g__law_cell_at_run (d0 d1 : D) : g__law_cell_at [d0, d1] = (f__law_cell_at [.val d0, .val d1]).bind outR := rfl
def N__law_due : List Str := ["_law_one", "_law_two", "_law_k"]
def f__law_due_b1 : S → Option Out :=
  (sIf (fAnd (fTest (fBin dEq (fBin dAnd (fBin dShr (fRead 0) (fRead 2)) (fC (.int 1))) (fC (.int 1)))) (fTest (fBin dEq (fBin dAnd (fBin dShr (fRead 1) (fRead 2)) (fC (.int 1))) (fC (.int 0))))) (sRet (fC (.bl false))) sNext)
def f__law_due : S → Option Out :=
  (sSeq (sFor (fIt dRange1 (fCons (fC (.int 6)) fNil)) (bName 2) f__law_due_b1)
  (sRet (fC (.bl true))))
def g__law_due : List D → Option R := runG N__law_due 2 f__law_due
theorem g__law_due_run (d0 d1 : D) : g__law_due [d0, d1] = (f__law_due [.val d0, .val d1, .un]).bind outR := rfl
def N_law : List Str := ["_law_script", "_law_cell", "_law_one", "_law_two", "_law_left", "_law_right", "_law_found"]
def f_law_b1 : S → Option Out :=
  (sSeq (sAsg 6 (fCall g_within (fCons (fVar 4) (fCons (fVar 5) fNil))))
  (sIf (fOr (fNot (fTest (fUn (dIsT .bool) (fRead 6)))) (fTest (fBin dNe (fRead 6) (fCall g__law_due (fCons (fVar 4) (fCons (fVar 5) fNil)))))) (sRet (fC (.bl false))) sNext))
def f_law_b2 : S → Option Out :=
  (sSeq (sAsg 2 (fBin dMod (fRead 1) (fC (.int 64))))
  (sSeq (sAsg 3 (fBin dMod (fBin dDiv (fRead 1) (fC (.int 64))) (fC (.int 64))))
  (sSeq (sIf (fTest (fBin dEq (fBin dMod (fBin dDiv (fRead 1) (fC (.int 64))) (fC (.int 3))) (fC (.int 1)))) (sAsg 3 (fBin dOr (fRead 2) (fBin dShl (fC (.int 1)) (fBin dMod (fBin dDiv (fRead 1) (fC (.int 192))) (fC (.int 6)))))) sNext)
  (sSeq (sIf (fTest (fBin dEq (fBin dMod (fBin dDiv (fRead 1) (fC (.int 64))) (fC (.int 3))) (fC (.int 2)))) (sAsg 3 (fBin dSub (fRead 2) (fBin dAnd (fRead 2) (fBin dShl (fC (.int 1)) (fBin dMod (fBin dDiv (fRead 1) (fC (.int 192))) (fC (.int 6))))))) sNext)
  (sFor (fItL (fFrz (fLst (fCons (fTup (fCons (fVar 2) (fCons (fVar 3) fNil))) (fCons (fTup (fCons (fVar 3) (fCons (fVar 2) fNil))) (fCons (fTup (fCons (fVar 2) (fCons (fVar 2) fNil))) (fCons (fTup (fCons (fC (.int 0)) (fCons (fVar 2) fNil))) fNil))))))) (bTup [4, 5]) f_law_b1)))))
def f_law : S → Option Out :=
  (sSeq (sFor (fItL (fFrz (fSl (fRead 0) fNoPart (fPart (fC (.int 63)))))) (bName 1) f_law_b2)
  (sRet (fC (.bl true))))
def g_law : List D → Option R := runG N_law 1 f_law
theorem g_law_run (d0 : D) : g_law [d0] = (f_law [.val d0, .un, .un, .un, .un, .un, .un]).bind outR := rfl
end Fy
set_option linter.all false
set_option Elab.async false
set_option maxHeartbeats 4000000
set_option maxRecDepth 100000
namespace Fy
open PySem L2 Fx
theorem all_pairs : ∀ a b : Fin 64, (blOf (g_within [.int a.val, .int b.val])).isSome = true ∧ blOf (g_within [.int a.val, .int b.val]) = blOf (g__law_due [.int a.val, .int b.val]) := by decide +kernel
theorem two_bits : ∀ a : Fin 64, ∀ k : Fin 6, (∃ b : Fin 64, Builtin.bitOr a.val (1 * 2 ^ k.val) = b.val) ∧ ∃ b : Fin 64, (a.val : Int) - Builtin.bitAnd a.val (1 * 2 ^ k.val) = b.val := by decide +kernel
theorem mod64 (c : Int) : ∃ a : Fin 64, c % 64 = (a.val : Int) := range_fin (n := 64) (by omega) (by omega)
theorem mod6 (c : Int) : ∃ a : Fin 6, c % 6 = (a.val : Int) := range_fin (n := 6) (by omega) (by omega)
/-- one pair is looked at -/
theorem turn1 (ns : List Int) (s : S) (one two : Fin 64) (hs : ∃ a1 a4 a5 a6 : Sl, s = [.val (.scr ns), a1, .val (.int one.val), .val (.int two.val), a4, a5, a6]) (x y : Fin 64) (P : Out → Prop) :
    ∃ s1, bTup [4, 5] (.tup [.int x.val, .int y.val]) s = some s1 ∧ Ev f_law_b1 s1 (turnP (fun s => ∃ a1 a4 a5 a6 : Sl, s = [.val (.scr ns), a1, .val (.int one.val), .val (.int two.val), a4, a5, a6]) P) := by
  obtain ⟨a1, a4, a5, a6, rfl⟩ := hs
  refine ⟨_, rfl, ev_seq ?_⟩
  obtain ⟨h1, h2⟩ := all_pairs x y
  obtain ⟨w, hw⟩ := Option.isSome_iff_exists.mp h1
  have hd : blOf (g__law_due [.int x.val, .int y.val]) = some w := h2 ▸ hw
  refine ev_asg (ok_call rfl (blOf_eq hw)) ?_
  refine ev_if (ok_or2 (ok_not (ok_test (b := true) rfl)) fun _ => ok_test (ok_bin (x := .bl w) rfl (ok_call rfl (blOf_eq hd)) rfl)) (fun h => ?_) (fun _ => ev_next ⟨a1, _, _, _, rfl⟩)
  simp at h
theorem law_true (ns : List Int) (h : ns.length ≤ 63) : g_law [.scr ns] = some (.ret (.bl true)) := by
  rw [g_law_run]
  refine run_of (P := fun r => r = some (.ret (.bl true))) (ev_seq ?_)
  refine ev_for (items := cutD (ns.map D.int) none (some 63)) rfl (fun _ s => ∃ a1 a2 a3 a4 a5 a6, s = [.val (.scr ns), a1, a2, a3, a4, a5, a6]) ⟨_, _, _, _, _, _, rfl⟩ (fun pre d post s e hs => ?_) (fun s hs => ?_)
  · obtain ⟨a1, a2, a3, a4, a5, a6, rfl⟩ := hs
    obtain ⟨c, rfl⟩ : ∃ c, d = .int c := by
      have hm : d ∈ cutD (ns.map D.int) none (some 63) := by rw [e]; simp
      have hm2 := List.mem_of_mem_drop (List.mem_of_mem_take hm)
      obtain ⟨c, _, hc⟩ := List.mem_map.mp hm2
      exact ⟨c, hc.symm⟩
    obtain ⟨one, h1⟩ := mod64 c
    obtain ⟨two, h2⟩ := mod64 (c / 64)
    obtain ⟨k, hk⟩ := mod6 (c / 192)
    refine ⟨_, rfl, ev_seq (ev_asg (d := .int one.val) (by rw [← h1]; rfl) ?_)⟩
    refine ev_seq (ev_asg (d := .int two.val) (by rw [← h2]; rfl) ?_)
    refine ev_cut (fun s => ∃ two : Fin 64, s = [.val (.scr ns), .val (.int c), .val (.int one.val), .val (.int two.val), a4, a5, a6]) ?_ ?_
    · refine ev_if rfl (fun _ => ?_) (fun _ => ev_next ⟨two, rfl⟩)
      obtain ⟨b, hb⟩ := (two_bits one k).1
      exact ev_asg (d := .int b.val) (ok_bin rfl (ok_bin rfl (y := .int k.val) (by rw [← hk]; rfl) (dShl_one k.val (by have := k.isLt; omega))) (by rw [← hb]; rfl)) ⟨b, rfl⟩
    rintro s ⟨two, rfl⟩
    refine ev_cut (fun s => ∃ two : Fin 64, s = [.val (.scr ns), .val (.int c), .val (.int one.val), .val (.int two.val), a4, a5, a6]) ?_ ?_
    · refine ev_if rfl (fun _ => ?_) (fun _ => ev_next ⟨two, rfl⟩)
      obtain ⟨b, hb⟩ := (two_bits one k).2
      exact ev_asg (d := .int b.val) (ok_bin rfl (ok_bin rfl (ok_bin rfl (y := .int k.val) (by rw [← hk]; rfl) (dShl_one k.val (by have := k.isLt; omega))) rfl) (by rw [← hb]; rfl)) ⟨b, rfl⟩
    rintro s ⟨two, rfl⟩
    refine ev_for (items := [.tup [.int one.val, .int two.val], .tup [.int two.val, .int one.val], .tup [.int one.val, .int one.val], .tup [.int 0, .int one.val]]) rfl (fun _ s => ∃ a1 a4 a5 a6 : Sl, s = [.val (.scr ns), a1, .val (.int one.val), .val (.int two.val), a4, a5, a6]) ⟨_, _, _, _, rfl⟩ (fun pre d post s e hs => ?_) (fun s hs => ?_)
    · have hm : d ∈ [D.tup [.int one.val, .int two.val], .tup [.int two.val, .int one.val], .tup [.int one.val, .int one.val], .tup [.int 0, .int one.val]] := by rw [e]; simp
      simp only [List.mem_cons, List.not_mem_nil, or_false] at hm
      rcases hm with rfl | rfl | rfl | rfl
      · exact turn1 ns s one two hs one two _
      · exact turn1 ns s one two hs two one _
      · exact turn1 ns s one two hs one one _
      · exact turn1 ns s one two hs (0 : Fin 64) one _
    · obtain ⟨a1, a4, a5, a6, rfl⟩ := hs
      exact ⟨_, _, _, _, _, _, rfl⟩
  · obtain ⟨a1, a2, a3, a4, a5, a6, rfl⟩ := hs
    exact ev_ret rfl rfl
end Fy
set_option Elab.async false
set_option linter.all false
set_option maxRecDepth 100000
set_option maxHeartbeats 4000000
namespace Fy
open PySem L2 Fx
def topS (i : Nat) : Stmt := PySem.Challenge.pw_signright_k04_one_within_another.main.body.getD i (.Pass ⟨0, 0, 0, 0⟩)
abbrev s_within : Stmt := topS 1
abbrev s__law_cell_at : Stmt := topS 3
abbrev s__law_due : Stmt := topS 4
abbrev s_law : Stmt := topS 5
section
variable {P : Program} {w : World} {K : PySem.W.Frag} {mg : Str → Option Value} {base : Heap} {cl : Nat → Addr}
theorem sc_within : FnScope N_within ["one", "two"] (defScope s_within) := ⟨rfl, rfl, rfl, by decide +kernel, rfl, by decide +kernel, by decide +kernel⟩
theorem ok_within {f : Addr} {fd : FuncData} (F : Fun K "within" "within" s_within f fd) (gF : mg "within" = some (.ref f)) : Ca P w K mg base ⟨K, cl⟩ "within" 1 g_within := by
  have Sc := sc_within
  refine ⟨f, fd, ["one", "two"], fn_ok (k := 0) F Sc (fb := f_within) (fun cdv A outer s H E hr => ?_) runG_len runG_out, gF, F.kp, F.binds fun _ _ _ _ _ _ us hl => match us, hl with | [_, _], _ => rfl⟩
  exact (fss_one (fs_ret (fe_eq rfl hr (fr_of (fe_band (fr_var 0) (fr_var 1))) (fr_var 0))))
theorem sc__law_cell_at : FnScope N__law_cell_at ["_law_script", "_law_k"] (defScope s__law_cell_at) := ⟨rfl, rfl, rfl, by decide +kernel, rfl, by decide +kernel, by decide +kernel⟩
theorem ok__law_cell_at {f : Addr} {fd : FuncData} (F : Fun K "_law_cell_at" "_law_cell_at" s__law_cell_at f fd) (gF : mg "_law_cell_at" = some (.ref f)) (m_len : mg "len" = none) : Ca P w K mg base ⟨K, cl⟩ "_law_cell_at" 1 g__law_cell_at := by
  have Sc := sc__law_cell_at
  refine ⟨f, fd, ["_law_script", "_law_k"], fn_ok (k := 0) F Sc (fb := f__law_cell_at) (fun cdv A outer s H E hr => ?_) runG_len runG_out, gF, F.kp, F.binds fun _ _ _ _ _ _ us hl => match us, hl with | [_, _], _ => rfl⟩
  exact (fss_cons (fs_if (ft_lt (fr_var 1) (fr_of (fe_len rfl m_len (fr_var 0)))) (fss_one (fs_ret (fe_item rfl (fr_var 0) (fr_var 1)))) fss_nil)
  (fss_one (fs_ret fe_int)))
theorem sc__law_due : FnScope N__law_due ["_law_one", "_law_two"] (defScope s__law_due) := ⟨rfl, rfl, rfl, by decide +kernel, rfl, by decide +kernel, by decide +kernel⟩
theorem ok__law_due {f : Addr} {fd : FuncData} (F : Fun K "_law_due" "_law_due" s__law_due f fd) (gF : mg "_law_due" = some (.ref f)) (m_range : mg "range" = none) : Ca P w K mg base ⟨K, cl⟩ "_law_due" 1 g__law_due := by
  have Sc := sc__law_due
  refine ⟨f, fd, ["_law_one", "_law_two"], fn_ok (k := 0) F Sc (fb := f__law_due) (fun cdv A outer s H E hr => ?_) runG_len runG_out, gF, F.kp, F.binds fun _ _ _ _ _ _ us hl => match us, hl with | [_, _], _ => rfl⟩
  exact (fss_cons (fs_for (passes_of rfl) rfl (fi_range1 rfl m_range (fa_cons fe_int fa_nil)) (fg_name 2 Sc.nd) (fss_one (fs_if (ft_w (fw_and (ft_eq rfl hr (fr_of (fe_band (fr_of (fe_shr (fr_var 0) (fr_var 2))) (fr_of fe_int))) (fr_of fe_int)) (fw_and1 (ft_eq rfl hr (fr_of (fe_band (fr_of (fe_shr (fr_var 1) (fr_var 2))) (fr_of fe_int))) (fr_of fe_int))))) (fss_one (fs_ret fe_bl)) fss_nil)))
  (fss_one (fs_ret fe_bl)))
theorem sc_law : FnScope N_law ["_law_script"] (defScope s_law) := ⟨rfl, rfl, rfl, by decide +kernel, rfl, by decide +kernel, by decide +kernel⟩
theorem ok_law {f : Addr} {fd : FuncData} (F : Fun K "law" "law" s_law f fd) (C__law_due : Ca P w K mg base ⟨K, cl⟩ "_law_due" 1 g__law_due) (C_within : Ca P w K mg base ⟨K, cl⟩ "within" 1 g_within) (m_bool : mg "bool" = none) (m_isinstance : mg "isinstance" = none) : FnOk P w K mg base (L2.CX P w) 2 f fd ["_law_script"] (SpF ⟨K, cl⟩ g_law) := by
  have Sc := sc_law
  refine fn_ok (k := 1) F Sc (fb := f_law) (fun cdv A outer s H E hr => ?_) runG_len runG_out
  exact (fss_cons (fs_for (passes_of rfl) rfl (fi_list rfl (fe_frz (fn_slice rfl (fr_var 0) fo_none (fo_some fe_int)))) (fg_name 1 Sc.nd) (fss_cons (fs_asg 2 Sc.nd (fe_mod (fr_var 1) (fr_of fe_int)))
  (fss_cons (fs_asg 3 Sc.nd (fe_mod (fr_of (fe_div (fr_var 1) (fr_of fe_int))) (fr_of fe_int)))
  (fss_cons (fs_if (ft_eq rfl hr (fr_of (fe_mod (fr_of (fe_div (fr_var 1) (fr_of fe_int))) (fr_of fe_int))) (fr_of fe_int)) (fss_one (fs_asg 3 Sc.nd (fe_bor (fr_var 2) (fr_of (fe_shl (fr_of fe_int) (fr_of (fe_mod (fr_of (fe_div (fr_var 1) (fr_of fe_int))) (fr_of fe_int)))))))) fss_nil)
  (fss_cons (fs_if (ft_eq rfl hr (fr_of (fe_mod (fr_of (fe_div (fr_var 1) (fr_of fe_int))) (fr_of fe_int))) (fr_of fe_int)) (fss_one (fs_asg 3 Sc.nd (fe_sub (fr_var 2) (fr_of (fe_band (fr_var 2) (fr_of (fe_shl (fr_of fe_int) (fr_of (fe_mod (fr_of (fe_div (fr_var 1) (fr_of fe_int))) (fr_of fe_int)))))))))) fss_nil)
  (fss_one (fs_for (passes_of rfl) rfl (fi_list rfl (fe_frz (fn_lst (fa_cons (fe_tup (fa_cons (fe_var 2) (fa_cons (fe_var 3) fa_nil))) (fa_cons (fe_tup (fa_cons (fe_var 3) (fa_cons (fe_var 2) fa_nil))) (fa_cons (fe_tup (fa_cons (fe_var 2) (fa_cons (fe_var 2) fa_nil))) (fa_cons (fe_tup (fa_cons fe_int (fa_cons (fe_var 2) fa_nil))) fa_nil))))))) (fg_tup rfl rfl (fgs_cons 4 Sc.nd (fgs_cons 5 Sc.nd fgs_nil))) (fss_cons (fs_asg 6 Sc.nd (ge_call C_within hr (takes_of rfl rfl rfl rfl) (fa_cons (fe_var 4) (fa_cons (fe_var 5) fa_nil))))
  (fss_one (fs_if (ft_w (fw_or (ft_not (ft_val (fe_isinst .bool rfl m_isinstance m_bool (fr_var 6)))) (fw_or1 (ft_ne rfl hr (fr_var 6) (fr_of (ge_call C__law_due hr (takes_of rfl rfl rfl rfl) (fa_cons (fe_var 4) (fa_cons (fe_var 5) fa_nil)))))))) (fss_one (fs_ret fe_bl)) fss_nil))))))))))
  (fss_one (fs_ret fe_bl)))
end
theorem all_mk {l : PySem.W.OpenLaw} {w : World} {K : PySem.W.Frag} {h : Heap} {mg : Str → Option Value} {fa f0 f1 f2 f3 : Addr} (X : K.In h) (G : h.Ns mainGlobals mg) (hfa : mg "law" = some (.ref fa)) (cl : Nat → Addr)
    {od0 an0 od1 an1 od2 an2 od3 an3 : Option Addr} {sl0 sl1 sl2 sl3 : Array (Option Value)} {oc0 kV0 dc0 pm0 cd0 ct0 oc1 kV1 dc1 pm1 cd1 ct1 oc2 kV2 dc2 pm2 cd2 ct2 oc3 kV3 dc3 pm3 cd3 ct3 : Value}
    (a0 : PySem.W.nsIn K mainGlobals "within" = some (some (.ref f0))) (l0 : K.lookup f0 = some ⟨oc0, od0, .func (PySem.W.fnOf "within" "within" (defArgs s_within) (defBody s_within) (defScope s_within) .none kV0 dc0 pm0 an0 cd0 ct0), sl0⟩) (c0 : PySem.W.codeIn K cd0 "within" = true) (k0 : PySem.W.keepIn K (.ref f0) = true)
    (a1 : PySem.W.nsIn K mainGlobals "_law_cell_at" = some (some (.ref f1))) (l1 : K.lookup f1 = some ⟨oc1, od1, .func (PySem.W.fnOf "_law_cell_at" "_law_cell_at" (defArgs s__law_cell_at) (defBody s__law_cell_at) (defScope s__law_cell_at) .none kV1 dc1 pm1 an1 cd1 ct1), sl1⟩) (c1 : PySem.W.codeIn K cd1 "_law_cell_at" = true) (k1 : PySem.W.keepIn K (.ref f1) = true)
    (a2 : PySem.W.nsIn K mainGlobals "_law_due" = some (some (.ref f2))) (l2 : K.lookup f2 = some ⟨oc2, od2, .func (PySem.W.fnOf "_law_due" "_law_due" (defArgs s__law_due) (defBody s__law_due) (defScope s__law_due) .none kV2 dc2 pm2 an2 cd2 ct2), sl2⟩) (c2 : PySem.W.codeIn K cd2 "_law_due" = true) (k2 : PySem.W.keepIn K (.ref f2) = true)
    (a3 : PySem.W.nsIn K mainGlobals "law" = some (some (.ref f3))) (l3 : K.lookup f3 = some ⟨oc3, od3, .func (PySem.W.fnOf "law" "law" (defArgs s_law) (defBody s_law) (defScope s_law) .none kV3 dc3 pm3 an3 cd3 ct3), sl3⟩) (c3 : PySem.W.codeIn K cd3 "law" = true) (k3 : PySem.W.keepIn K (.ref f3) = true)
    (z_bool : PySem.W.nsIn K mainGlobals "bool" = some none) (z_isinstance : PySem.W.nsIn K mainGlobals "isinstance" = some none) (z_len : PySem.W.nsIn K mainGlobals "len" = some none) (z_range : PySem.W.nsIn K mainGlobals "range" = some none) :
    ∃ fd : FuncData, (∀ (s : Shared) (v : Value), BindsTo s fd ⟨[v], []⟩ [("_law_script", v)]) ∧ ∀ base : Heap, K.In base → base.Ns mainGlobals mg → FnOk l.prog w K mg base (L2.CX l.prog w) 2 fa fd ["_law_script"] (SpF ⟨K, cl⟩ g_law) := by
  have e := hfa.symm.trans (PySem.W.mg_of X G a3)
  cases e
  refine ⟨PySem.W.fnOf "law" "law" (defArgs s_law) (defBody s_law) (defScope s_law) .none kV3 dc3 pm3 an3 cd3 ct3, fun s v => .of_eq rfl, fun base _ _ => ?_⟩
  have C_within : Ca l.prog w K mg base ⟨K, cl⟩ "within" 1 g_within := ok_within (fun_mk (st := s_within) l0 c0 k0) (PySem.W.mg_of X G a0)  
  have C__law_cell_at : Ca l.prog w K mg base ⟨K, cl⟩ "_law_cell_at" 1 g__law_cell_at := ok__law_cell_at (fun_mk (st := s__law_cell_at) l1 c1 k1) (PySem.W.mg_of X G a1)  (PySem.W.mg_none_of X G z_len)
  have C__law_due : Ca l.prog w K mg base ⟨K, cl⟩ "_law_due" 1 g__law_due := ok__law_due (fun_mk (st := s__law_due) l2 c2 k2) (PySem.W.mg_of X G a2)  (PySem.W.mg_none_of X G z_range)
  exact ok_law (fun_mk (st := s_law) l3 c3 k3) C__law_due C_within (PySem.W.mg_none_of X G z_bool) (PySem.W.mg_none_of X G z_isinstance)
end Fy
open PySem PySem.W PyProof.Rows
set_option maxHeartbeats 0 in
theorem PySem.Challenge.cw_signright_k04_one_within_another_holds : PySem.Challenge.rw_signright_k04_one_within_another.Holds := by
  w_on; o_law; k_head; (case hw => w_witness2)
  k_fill
  refine L2.walk_of (l := PySem.Challenge.rw_signright_k04_one_within_another) (n := 63) (k := 2) (x := "_law_script") (CX := fun w => L2.CX PySem.Challenge.rw_signright_k04_one_within_another.prog w) (sp := fun w => Fx.SpF ⟨_, fun _ => 0⟩ Fy.g_law) rfl (by decide) rfl ⟨rfl, by decide, by decide⟩ (fun w h Y => PySem.W.kIn_of Y) ?F (fun w H a ns hl _ hS => Fx.law_sp Fy.law_true hl hS) (fun _ _ _ _ _ h => Fx.cx_false h)
  case F =>
    intro w mg fa h KX G hmg
    refine' Fy.all_mk KX G hmg (fun _ => 0) ?a0 ?l0 ?c0 ?k0 ?a1 ?l1 ?c1 ?k1 ?a2 ?l2 ?c2 ?k2 ?a3 ?l3 ?c3 ?k3 ?z_bool ?z_isinstance ?z_len ?z_range
    (case a0 => k_is)
    (case l0 => k_is)
    (case c0 => k_is)
    (case k0 => k_is)
    (case a1 => k_is)
    (case l1 => k_is)
    (case c1 => k_is)
    (case k1 => k_is)
    (case a2 => k_is)
    (case l2 => k_is)
    (case c2 => k_is)
    (case k2 => k_is)
    (case a3 => k_is)
    (case l3 => k_is)
    (case c3 => k_is)
    (case k3 => k_is)
    (case z_bool => k_is)
    (case z_isinstance => k_is)
    (case z_len => k_is)
    (case z_range => k_is)
#print axioms PySem.Challenge.cw_signright_k04_one_within_another_holds
